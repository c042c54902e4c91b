import Derived.Test.YtojbggomekgkcaaGreatEvD
import Derived.Test.YtojbggomekgkcaaGreatLitA
/- The compiled texts, second half. Printed by a program. -/
namespace Go.Proofs.YtojbggomekgkcaaGreat.C
open Go Go.Ev Go.Proofs
def f199 : LFunc := ⟨45, [5, 3, 2, 1, 0, 4], [.tmp 4],
 .seq (r [K 2 (.box 4 (t 0) false), K 3 (.box 2 (t 1) false), K 4 (.mov (.const (.bool false)))])
 (.seq (r [L 6 (.makeFunc (.func 242) [] [(t 2)]), J 5 6])
 (.seq (r [L 7 (.fieldAddr 0 (t 3)), L 8 (.load none (t 7)), L 9 (.len false (t 8)), L 10 (.bin .gtr .none (t 9) (i 0)), M 11 10, G 12 11 true (.fieldAddr 0 (t 3)), G 13 11 true (.load none (t 12)), G 14 11 true (.len false (t 13)), G 15 11 true (.bin .leq .none (t 14) (i 3)), L 16 (.pick (t 11) (t 15) (.const (.bool false))), M 17 16, G 18 17 true (.fieldAddr 0 (t 3)), G 19 17 true (.load none (t 18)), G 20 17 true (.mov (t 5)), G 21 17 true (.call (.func 243) [(t 19), (t 20)]), G 22 17 true (.un .not (t 21)), L 23 (.pick (t 17) (t 22) (.const (.bool false))), M 24 23, G 25 24 true (.fieldAddr 0 (t 3)), G 26 24 true (.load none (t 25)), G 27 24 true (.call (.func 196) [(t 26)]), G 28 24 true (.un .not (t 27)), L 29 (.pick (t 24) (t 28) (.const (.bool false))), M 30 29, G 31 30 true (.mov (t 5)), G 32 30 true (.fieldAddr 1 (t 3)), G 33 30 true (.load none (t 32)), G 34 30 true (.call (t 31) [(t 33)]), G 35 30 true (.un .not (t 34)), L 36 (.pick (t 30) (t 35) (.const (.bool false))), M 37 36, G 38 37 true (.fieldAddr 0 (t 3)), G 39 37 true (.load none (t 38)), G 40 37 true (.fieldAddr 1 (t 3)), G 41 37 true (.load none (t 40)), G 42 37 true (.call (.func 240) [(t 39), (t 41)]), G 43 37 true (.un .not (t 42)), L 44 (.pick (t 37) (t 43) (.const (.bool false))), J 4 44])
 (.ret)))⟩
def f200 : LFunc := ⟨39, [38, 24, 3, 20, 0, 2], [.tmp 2],
 .seq (r [K 2 (.mov (.const (.bool false)))])
 (.seq (.seq (r [M 4 0, L 5 (.len true (t 4)), L 6 (.bin .lss .none (t 5) (i 1)), M 7 6, G 8 7 false (.mov (t 0)), G 9 7 false (.len true (t 8)), G 10 7 false (.bin .gtr .none (t 9) (i 12)), L 11 (.pick (t 7) (.const (.bool true)) (t 10)), M 12 11, G 13 12 false (.mov (t 0)), G 14 12 false (.indexStr (t 13) (i 0)), G 15 12 false (.call (.func 244) [(t 14)]), L 16 (.pick (t 12) (.const (.bool true)) (t 15)), M 17 16, G 18 17 false (.mov (t 0)), G 19 17 false (.call (.func 245) [(t 18)]), K 20 (.pick (t 17) (.const (.bool true)) (t 19))])
 (.cond (t 20) (.seq (r [K 2 (.mov (.const (.bool false)))])
 (.ret)) (.skip)))
 (.seq (.seq (r [K 3 (.mov (i 0))])
 (.block 0 (.loop [] (.seq (.seq (r [M 21 3, M 22 0, L 23 (.len true (t 22)), K 24 (.bin .lss .none (t 21) (t 23))])
 (.cond (t 24) (.skip) (.exit 0)))
 (.seq (.block 1 (.seq (r [M 27 0, M 28 3, L 29 (.indexStr (t 27) (t 28)), L 30 (.call (.func 246) [(t 29)]), L 31 (.un .not (t 30)), M 32 31, G 33 32 true (.mov (t 0)), G 34 32 true (.mov (t 3)), G 35 32 true (.indexStr (t 33) (t 34)), G 36 32 true (.call (.func 244) [(t 35)]), G 37 32 true (.un .not (t 36)), K 38 (.pick (t 32) (t 37) (.const (.bool false)))])
 (.cond (t 38) (.seq (r [K 2 (.mov (.const (.bool false)))])
 (.ret)) (.skip))))
 (r [M 25 3, L 26 (.bin .add .none (t 25) (i 1)), J 3 26]))))))
 (.seq (r [K 2 (.mov (.const (.bool true)))])
 (.ret))))⟩
def f201 : LFunc := ⟨19, [16, 5, 1, 9, 7, 8, 0, 4], [.tmp 4],
 .seq (r [K 4 (.mov (i 0))])
 (.seq (.seq (r [M 6 0, K 7 (.len false (t 6)), K 8 (.mov (i 0))])
 (.block 0 (.loop [] (.seq (r [K 9 (.bin .lss .none (t 8) (t 7))])
 (.seq (.cond (t 9) (.skip) (.exit 0))
 (.seq (.block 1 (.seq (r [M 10 8, J 5 10])
 (.seq (r [M 11 1, M 12 0, M 13 5, L 14 (.indexSl 1 (t 12) (t 13)), L 15 (.load none (t 14)), K 16 (.call (t 11) [(t 15)])])
 (.cond (t 16) (.seq (r [M 17 5, J 4 17])
 (.ret)) (.skip)))))
 (r [L 18 (.bin .add .none (t 8) (i 1)), J 8 18])))))))
 (.seq (r [K 4 (.mov (i (-1)))])
 (.ret)))⟩
def f202 : LFunc := ⟨36, [35, 28, 8, 7, 6, 19, 1, 5, 9, 12, 10, 11, 0, 4], [.tmp 4],
 .seq (r [K 4 (.mov (i 0))])
 (.seq (.seq (r [J 9 0, K 10 (.len false (t 9)), K 11 (.mov (i 0))])
 (.block 0 (.loop [] (.seq (r [K 12 (.bin .lss .none (t 11) (t 10))])
 (.seq (.cond (t 12) (.skip) (.exit 0))
 (.seq (.block 1 (.seq (r [M 13 11, L 14 (.indexSl 1 (t 9) (t 11)), L 15 (.load none (t 14)), J 5 13, J 6 15])
 (.seq (.seq (r [M 16 5, M 17 1, L 18 (.len false (t 17)), K 19 (.bin .geq .none (t 16) (t 18))])
 (.cond (t 19) (.seq (r [K 4 (.mov (i 1))])
 (.ret)) (.skip)))
 (.seq (r [M 20 1, M 21 5, L 22 (.indexSl 1 (t 20) (t 21)), L 23 (.load none (t 22)), J 7 23])
 (.seq (r [M 24 6, M 25 7, L 26 (.call (.func 79) [(t 24), (t 25)]), J 8 26])
 (.seq (r [M 27 8, K 28 (.bin .neq .none (t 27) (i 0))])
 (.cond (t 28) (.seq (r [M 29 8, J 4 29])
 (.ret)) (.skip))))))))
 (r [L 30 (.bin .add .none (t 11) (i 1)), J 11 30])))))))
 (.seq (.seq (r [M 31 0, L 32 (.len false (t 31)), M 33 1, L 34 (.len false (t 33)), K 35 (.bin .lss .none (t 32) (t 34))])
 (.cond (t 35) (.seq (r [K 4 (.mov (i (-1)))])
 (.ret)) (.skip)))
 (.seq (r [K 4 (.mov (i 0))])
 (.ret))))⟩
def f203 : LFunc := ⟨29, [24, 3, 7, 5, 6, 0, 2], [.tmp 2],
 .seq (r [K 2 (.mov (.const (.bool false)))])
 (.seq (.seq (r [M 4 0, K 5 (.len true (t 4)), K 6 (.mov (i 0))])
 (.block 0 (.loop [] (.seq (r [K 7 (.bin .lss .none (t 6) (t 5))])
 (.seq (.cond (t 7) (.skip) (.exit 0))
 (.seq (.block 1 (.seq (r [M 8 6, J 3 8])
 (.seq (r [M 9 0, M 10 3, L 11 (.indexStr (t 9) (t 10)), L 12 (.bin .lss .none (t 11) (.const (.int .u8 32))), M 13 12, G 14 13 false (.mov (t 0)), G 15 13 false (.mov (t 3)), G 16 13 false (.indexStr (t 14) (t 15)), G 17 13 false (.bin .gtr .none (t 16) (.const (.int .u8 126))), L 18 (.pick (t 13) (.const (.bool true)) (t 17)), M 19 18, G 20 19 false (.mov (t 0)), G 21 19 false (.mov (t 3)), G 22 19 false (.indexStr (t 20) (t 21)), G 23 19 false (.bin .eql .none (t 22) (.const (.int .u8 39))), K 24 (.pick (t 19) (.const (.bool true)) (t 23))])
 (.cond (t 24) (.seq (r [K 2 (.mov (.const (.bool false)))])
 (.ret)) (.skip)))))
 (r [L 25 (.bin .add .none (t 6) (i 1)), J 6 25])))))))
 (.seq (r [M 26 0, L 27 (.len true (t 26)), L 28 (.bin .leq .none (t 27) (i 12)), J 2 28])
 (.ret)))⟩
def f204 : LFunc := ⟨21, [6, 1, 5, 0, 4], [.tmp 4],
 .seq (r [K 4 (.mov (.const (.bool false)))])
 (.seq (r [M 8 0, L 9 (.call (.func 209) [(t 8)]), J 5 9])
 (.seq (r [M 11 5, M 12 1, L 13 (.call (.func 210) [(t 11), (t 12)]), M 10 13, L 14 (.extract (t 10) 0), L 15 (.extract (t 10) 1), J 6 14, M 7 15])
 (.seq (r [M 16 5, M 17 1, M 18 6, L 19 (.bin .add .none (t 18) (i 1)), L 20 (.call (.func 211) [(t 16), (t 17), (t 19)]), J 4 20])
 (.ret))))⟩
def f205 : LFunc := ⟨27, [16, 0, 6, 1, 4], [.tmp 4],
 .seq (r [K 4 (.mov (.const (.slice none 0 0)))])
 (.seq (.seq (r [M 5 1, K 6 (.bin .lss .none (t 5) (i 0))])
 (.cond (t 6) (r [⟨(some 7), true, .makeIface 9 (.const (.string ⟨#[99, 97, 110, 110, 111, 116, 32, 98, 101, 32, 110, 101, 103, 97, 116, 105, 118, 101]⟩)), none⟩, N (.panic)]) (.skip)))
 (.seq (.seq (r [M 8 1, M 9 0, L 10 (.cap (t 9)), M 11 0, L 12 (.len false (t 11)), L 13 (.bin .sub .none (t 10) (t 12)), L 14 (.bin .sub .none (t 8) (t 13)), J 1 14])
 (.seq (r [M 15 1, K 16 (.bin .gtr .none (t 15) (i 0))])
 (.cond (t 16) (r [M 17 0, M 18 0, L 19 (.cap (t 18)), L 20 (.sliceSl 2 (t 17) none (some (t 19)) none), M 21 1, L 22 (.appendZ 2 16 [.int .i64 0, .int .i64 0] (t 20) (t 21)), M 23 0, L 24 (.len false (t 23)), L 25 (.sliceSl 2 (t 22) none (some (t 24)) none), J 0 25]) (.skip))))
 (.seq (r [M 26 0, J 4 26])
 (.ret))))⟩
def f206 : LFunc := ⟨148, [20, 125, 19, 18, 16, 17, 15, 97, 80, 75, 11, 13, 56, 14, 39, 10, 32, 3, 4, 0, 25, 12, 1, 2], [],
 .seq (r [K 10 (.mov (.const (.bool true)))])
 (.seq (r [K 11 (.mov (.const (.bool true)))])
 (.block 0 (.loop [] (.block 1 (.seq (r [M 21 2, M 22 1, L 23 (.bin .sub .none (t 21) (t 22)), J 12 23])
 (.seq (.seq (r [M 24 12, K 25 (.bin .leq .none (t 24) (i 12))])
 (.cond (t 25) (.seq (r [M 26 0, M 27 1, M 28 2, M 29 4, L 30 (.call (.func 247) [(t 26), (t 27), (t 28), (t 29)])])
 (.ret)) (.skip)))
 (.seq (.seq (r [M 31 3, K 32 (.bin .eql .none (t 31) (i 0))])
 (.cond (t 32) (.seq (r [M 33 0, M 34 1, M 35 2, M 36 4, L 37 (.call (.func 248) [(t 33), (t 34), (t 35), (t 36)])])
 (.ret)) (.skip)))
 (.seq (.seq (r [M 38 10, K 39 (.un .not (t 38))])
 (.cond (t 39) (.seq (r [M 40 0, M 41 1, M 42 2, M 43 4, L 44 (.call (.func 249) [(t 40), (t 41), (t 42), (t 43)])])
 (r [M 45 3, L 46 (.bin .sub .none (t 45) (i 1)), J 3 46])) (.skip)))
 (.seq (r [M 48 0, M 49 1, M 50 2, M 51 4, L 52 (.call (.func 250) [(t 48), (t 49), (t 50), (t 51)]), M 47 52, L 53 (.extract (t 47) 0), L 54 (.extract (t 47) 1), J 13 53, J 14 54])
 (.seq (.seq (r [M 55 14, K 56 (.bin .eql .none (t 55) (i 2))])
 (.cond (t 56) (.seq (r [M 57 0, M 58 1, M 59 2, M 60 4, L 61 (.call (.func 251) [(t 57), (t 58), (t 59), (t 60)])])
 (.seq (r [M 62 2, L 63 (.bin .sub .none (t 62) (i 1)), M 64 13, M 65 1, L 66 (.bin .sub .none (t 64) (t 65)), L 67 (.bin .sub .none (t 63) (t 66)), J 13 67])
 (r [K 14 (.mov (i 1))]))) (.skip)))
 (.seq (.seq (r [M 68 10, M 69 68, G 70 69 true (.mov (t 11)), L 71 (.pick (t 69) (t 70) (.const (.bool false))), M 72 71, G 73 72 true (.mov (t 14)), G 74 72 true (.bin .eql .none (t 73) (i 1)), K 75 (.pick (t 72) (t 74) (.const (.bool false)))])
 (.cond (t 75) (.seq (r [M 76 0, M 77 1, M 78 2, M 79 4, K 80 (.call (.func 252) [(t 76), (t 77), (t 78), (t 79)])])
 (.cond (t 80) (.ret) (.skip))) (.skip)))
 (.seq (.seq (r [M 81 1, L 82 (.bin .gtr .none (t 81) (i 0)), M 83 82, G 84 83 true (.mov (t 4)), G 85 83 true (.mov (t 0)), G 86 83 true (.mov (t 1)), G 87 83 true (.bin .sub .none (t 86) (i 1)), G 88 83 true (.indexSl 2 (t 85) (t 87)), G 89 83 true (.load (some 2) (t 88)), G 90 83 true (.mov (t 0)), G 91 83 true (.mov (t 13)), G 92 83 true (.indexSl 2 (t 90) (t 91)), G 93 83 true (.load (some 2) (t 92)), G 94 83 true (.call (t 84) [(t 89), (t 93)]), G 95 83 true (.bin .lss .none (t 94) (i 0)), G 96 83 true (.un .not (t 95)), K 97 (.pick (t 83) (t 96) (.const (.bool false)))])
 (.cond (t 97) (.seq (r [M 98 0, M 99 1, M 100 2, M 101 13, M 102 4, L 103 (.call (.func 253) [(t 98), (t 99), (t 100), (t 101), (t 102)]), J 15 103])
 (.seq (r [M 104 15, J 1 104])
 (.exit 1))) (.skip)))
 (.seq (r [M 106 0, M 107 1, M 108 2, M 109 13, M 110 4, L 111 (.call (.func 254) [(t 106), (t 107), (t 108), (t 109), (t 110)]), M 105 111, L 112 (.extract (t 105) 0), L 113 (.extract (t 105) 1), J 16 112, J 17 113])
 (.seq (r [M 114 17, J 11 114])
 (.seq (r [M 115 16, M 116 1, L 117 (.bin .sub .none (t 115) (t 116)), M 118 2, M 119 16, L 120 (.bin .sub .none (t 118) (t 119)), J 18 117, J 19 120])
 (.seq (r [M 121 12, L 122 (.bin .quo .none (t 121) (i 8)), J 20 122])
 (.seq (r [M 123 18, M 124 19, K 125 (.bin .lss .none (t 123) (t 124))])
 (.cond (t 125) (.seq (r [M 126 18, M 127 20, L 128 (.bin .geq .none (t 126) (t 127)), J 10 128])
 (.seq (r [M 129 0, M 130 1, M 131 16, M 132 3, M 133 4, L 134 (.call (.func 206) [(t 129), (t 130), (t 131), (t 132), (t 133)])])
 (r [M 135 16, L 136 (.bin .add .none (t 135) (i 1)), J 1 136]))) (.seq (r [M 137 19, M 138 20, L 139 (.bin .geq .none (t 137) (t 138)), J 10 139])
 (.seq (r [M 140 0, M 141 16, L 142 (.bin .add .none (t 141) (i 1)), M 143 2, M 144 3, M 145 4, L 146 (.call (.func 206) [(t 140), (t 142), (t 143), (t 144), (t 145)])])
 (r [M 147 16, J 2 147])))))))))))))))))))))⟩
def f207 : LFunc := ⟨8, [0, 2], [.tmp 2],
 .seq (r [K 2 (.mov (i 0))])
 (.seq (.cond (.const (.bool false)) (.seq (r [M 3 0, L 4 (.conv (.int .u32) (t 3)), L 5 (.call (.func 255) [(t 4)]), J 2 5])
 (.ret)) (.skip))
 (.seq (r [M 6 0, L 7 (.call (.func 194) [(t 6)]), J 2 7])
 (.ret)))⟩
def f208 : LFunc := ⟨134, [18, 113, 17, 16, 14, 15, 13, 87, 72, 68, 9, 11, 50, 12, 35, 8, 29, 3, 0, 23, 10, 1, 2], [],
 .seq (r [K 8 (.mov (.const (.bool true)))])
 (.seq (r [K 9 (.mov (.const (.bool true)))])
 (.block 0 (.loop [] (.block 1 (.seq (r [M 19 2, M 20 1, L 21 (.bin .sub .none (t 19) (t 20)), J 10 21])
 (.seq (.seq (r [M 22 10, K 23 (.bin .leq .none (t 22) (i 12))])
 (.cond (t 23) (.seq (r [M 24 0, M 25 1, M 26 2, L 27 (.call (.func 256) [(t 24), (t 25), (t 26)])])
 (.ret)) (.skip)))
 (.seq (.seq (r [M 28 3, K 29 (.bin .eql .none (t 28) (i 0))])
 (.cond (t 29) (.seq (r [M 30 0, M 31 1, M 32 2, L 33 (.call (.func 257) [(t 30), (t 31), (t 32)])])
 (.ret)) (.skip)))
 (.seq (.seq (r [M 34 8, K 35 (.un .not (t 34))])
 (.cond (t 35) (.seq (r [M 36 0, M 37 1, M 38 2, L 39 (.call (.func 258) [(t 36), (t 37), (t 38)])])
 (r [M 40 3, L 41 (.bin .sub .none (t 40) (i 1)), J 3 41])) (.skip)))
 (.seq (r [M 43 0, M 44 1, M 45 2, L 46 (.call (.func 259) [(t 43), (t 44), (t 45)]), M 42 46, L 47 (.extract (t 42) 0), L 48 (.extract (t 42) 1), J 11 47, J 12 48])
 (.seq (.seq (r [M 49 12, K 50 (.bin .eql .none (t 49) (i 2))])
 (.cond (t 50) (.seq (r [M 51 0, M 52 1, M 53 2, L 54 (.call (.func 260) [(t 51), (t 52), (t 53)])])
 (.seq (r [M 55 2, L 56 (.bin .sub .none (t 55) (i 1)), M 57 11, M 58 1, L 59 (.bin .sub .none (t 57) (t 58)), L 60 (.bin .sub .none (t 56) (t 59)), J 11 60])
 (r [K 12 (.mov (i 1))]))) (.skip)))
 (.seq (.seq (r [M 61 8, M 62 61, G 63 62 true (.mov (t 9)), L 64 (.pick (t 62) (t 63) (.const (.bool false))), M 65 64, G 66 65 true (.mov (t 12)), G 67 65 true (.bin .eql .none (t 66) (i 1)), K 68 (.pick (t 65) (t 67) (.const (.bool false)))])
 (.cond (t 68) (.seq (r [M 69 0, M 70 1, M 71 2, K 72 (.call (.func 261) [(t 69), (t 70), (t 71)])])
 (.cond (t 72) (.ret) (.skip))) (.skip)))
 (.seq (.seq (r [M 73 1, L 74 (.bin .gtr .none (t 73) (i 0)), M 75 74, G 76 75 true (.mov (t 0)), G 77 75 true (.mov (t 1)), G 78 75 true (.bin .sub .none (t 77) (i 1)), G 79 75 true (.indexSl 1 (t 76) (t 78)), G 80 75 true (.load none (t 79)), G 81 75 true (.mov (t 0)), G 82 75 true (.mov (t 11)), G 83 75 true (.indexSl 1 (t 81) (t 82)), G 84 75 true (.load none (t 83)), G 85 75 true (.call (.func 262) [(t 80), (t 84)]), G 86 75 true (.un .not (t 85)), K 87 (.pick (t 75) (t 86) (.const (.bool false)))])
 (.cond (t 87) (.seq (r [M 88 0, M 89 1, M 90 2, M 91 11, L 92 (.call (.func 263) [(t 88), (t 89), (t 90), (t 91)]), J 13 92])
 (.seq (r [M 93 13, J 1 93])
 (.exit 1))) (.skip)))
 (.seq (r [M 95 0, M 96 1, M 97 2, M 98 11, L 99 (.call (.func 264) [(t 95), (t 96), (t 97), (t 98)]), M 94 99, L 100 (.extract (t 94) 0), L 101 (.extract (t 94) 1), J 14 100, J 15 101])
 (.seq (r [M 102 15, J 9 102])
 (.seq (r [M 103 14, M 104 1, L 105 (.bin .sub .none (t 103) (t 104)), M 106 2, M 107 14, L 108 (.bin .sub .none (t 106) (t 107)), J 16 105, J 17 108])
 (.seq (r [M 109 10, L 110 (.bin .quo .none (t 109) (i 8)), J 18 110])
 (.seq (r [M 111 16, M 112 17, K 113 (.bin .lss .none (t 111) (t 112))])
 (.cond (t 113) (.seq (r [M 114 16, M 115 18, L 116 (.bin .geq .none (t 114) (t 115)), J 8 116])
 (.seq (r [M 117 0, M 118 1, M 119 14, M 120 3, L 121 (.call (.func 208) [(t 117), (t 118), (t 119), (t 120)])])
 (r [M 122 14, L 123 (.bin .add .none (t 122) (i 1)), J 1 123]))) (.seq (r [M 124 17, M 125 18, L 126 (.bin .geq .none (t 124) (t 125)), J 8 126])
 (.seq (r [M 127 0, M 128 14, L 129 (.bin .add .none (t 128) (i 1)), M 130 2, M 131 3, L 132 (.call (.func 208) [(t 127), (t 129), (t 130), (t 131)])])
 (r [M 133 14, J 2 133])))))))))))))))))))))⟩
def f209 : LFunc := ⟨18, [9, 4, 0, 2], [.tmp 2],
 .seq (r [K 2 (.mov (.const (.pointer none)))])
 (.seq (.seq (r [M 3 0, K 4 (.bin .eql .ptr (t 3) (.const (.pointer none)))])
 (.cond (t 4) (.seq (r [K 2 (.mov (.const (.pointer none)))])
 (.ret)) (.skip)))
 (.seq (.seq (r [M 5 0, L 6 (.nilCheck (t 5)), L 7 (.fieldAddr 0 (t 6)), L 8 (.load none (t 7)), K 9 (.bin .eql .ptr (t 8) (.const (.pointer none)))])
 (.cond (t 9) (r [M 10 0, L 11 (.call (.func 265) [(.func 266)]), L 12 (.nilCheck (t 10)), L 13 (.fieldAddr 0 (t 12)), N (.store 1 (t 13) (t 11) false)]) (.skip)))
 (.seq (r [M 14 0, L 15 (.nilCheck (t 14)), L 16 (.fieldAddr 0 (t 15)), L 17 (.load none (t 16)), J 2 17])
 (.ret))))⟩
def f210 : LFunc := ⟨26, [6, 8, 16, 7, 1, 0, 4, 5], [.tmp 4, .tmp 5],
 .seq (r [K 4 (.mov (i 0)), K 5 (.mov (.const (.bool false)))])
 (.seq (r [M 10 0, M 11 1, L 12 (.call (.func 267) [(t 10), (t 11)]), M 9 12, L 13 (.extract (t 9) 0), L 14 (.extract (t 9) 1), J 6 13, J 7 14])
 (.seq (.seq (r [M 15 7, K 16 (.un .not (t 15))])
 (.cond (t 16) (.seq (r [K 8 (.mov (i 0))])
 (.seq (r [M 17 8, J 4 17, K 5 (.mov (.const (.bool false)))])
 (.ret))) (.skip)))
 (.seq (r [M 18 0, L 19 (.nilCheck (t 18)), L 20 (.fieldAddr 1 (t 19)), L 21 (.load none (t 20)), M 22 6, L 23 (.indexSl 2 (t 21) (t 22)), L 24 (.fieldAddr 1 (t 23)), L 25 (.load none (t 24)), J 4 25, K 5 (.mov (.const (.bool true)))])
 (.ret))))⟩
def f211 : LFunc := ⟨48, [25, 2, 7, 15, 8, 1, 0, 6], [.tmp 6],
 .seq (r [K 6 (.mov (.const (.bool false)))])
 (.seq (r [M 10 0, M 11 1, L 12 (.call (.func 267) [(t 10), (t 11)]), M 9 12, L 13 (.extract (t 9) 0), L 14 (.extract (t 9) 1), J 7 13, J 8 14])
 (.seq (.block 0 (.seq (r [M 16 8, J 15 16])
 (.cond (t 15) (.seq (r [M 17 0, L 18 (.nilCheck (t 17)), L 19 (.fieldAddr 1 (t 18)), L 20 (.load none (t 19)), M 21 7, M 22 2, L 23 (.indexSl 2 (t 20) (t 21)), L 24 (.fieldAddr 1 (t 23)), N (.store 1 (t 24) (t 22) false)])
 (.seq (r [K 6 (.mov (.const (.bool false)))])
 (.ret))) (.seq (r [M 26 0, L 27 (.bin .eql .ptr (t 26) (.const (.pointer none))), M 28 27, G 29 28 false (.mov (t 0)), G 30 28 false (.nilCheck (t 29)), G 31 28 false (.fieldAddr 0 (t 30)), G 32 28 false (.load none (t 31)), G 33 28 false (.bin .eql .func (t 32) (.const (.nilFunc))), L 34 (.pick (t 28) (.const (.bool true)) (t 33)), J 25 34])
 (.cond (t 25) (.seq (r [K 6 (.mov (.const (.bool false)))])
 (.ret)) (.skip))))))
 (.seq (r [M 35 0, M 36 0, L 37 (.nilCheck (t 36)), L 38 (.fieldAddr 1 (t 37)), L 39 (.load none (t 38)), M 40 7, M 41 1, M 42 2, ⟨(some 43), true, .build [.string ⟨#[]⟩, .int .i64 0] [(0, 1, (t 41)), (1, 1, (t 42))], none⟩, ⟨(some 44), true, .buildSlice 2 1 [.string ⟨#[]⟩, .int .i64 0] [(0, 2, (t 43))] false, none⟩, L 45 (.call (.func 268) [(t 39), (t 40), (t 44)]), L 46 (.nilCheck (t 35)), L 47 (.fieldAddr 1 (t 46)), N (.store 1 (t 47) (t 45) false)])
 (.seq (r [K 6 (.mov (.const (.bool true)))])
 (.ret)))))⟩
def f212 : LFunc := ⟨26, [5, 13, 6, 1, 0, 4], [.tmp 4],
 .seq (r [K 4 (.mov (.const (.bool false)))])
 (.seq (r [M 8 0, M 9 1, L 10 (.call (.func 267) [(t 8), (t 9)]), M 7 10, L 11 (.extract (t 7) 0), L 12 (.extract (t 7) 1), J 5 11, J 6 12])
 (.seq (.seq (r [J 13 6])
 (.cond (t 13) (r [M 14 0, M 15 0, L 16 (.nilCheck (t 15)), L 17 (.fieldAddr 1 (t 16)), L 18 (.load none (t 17)), M 19 5, M 20 5, L 21 (.bin .add .none (t 20) (i 1)), L 22 (.call (.func 269) [(t 18), (t 19), (t 21)]), L 23 (.nilCheck (t 14)), L 24 (.fieldAddr 1 (t 23)), N (.store 1 (t 24) (t 22) false)]) (.skip)))
 (.seq (r [M 25 6, J 4 25])
 (.ret))))⟩
def f213 : LFunc := ⟨23, [1, 0, 2], [.cell 2 (some 5)],
 .seq (r [⟨(some 2), false, .alloc 5 [.int .i64 0, .int .i64 0, .string ⟨#[]⟩, .int .i64 0, .string ⟨#[]⟩], none⟩])
 (.seq (r [L 3 (.load none (t 0)), L 4 (.fieldAddr 0 (t 1)), L 5 (.load none (t 4)), L 6 (.fieldAddr 4 (t 1)), L 7 (.load none (t 6)), L 8 (.len false (t 7)), L 9 (.fieldAddr 3 (t 1)), L 10 (.load none (t 9)), L 11 (.len false (t 10)), L 12 (.fieldAddr 1 (t 1)), L 13 (.load none (t 12)), L 14 (.len false (t 13)), L 15 (.fieldAddr 5 (t 1)), L 16 (.load none (t 15)), L 17 (.len false (t 16)), L 18 (.fieldAddr 6 (t 1)), L 19 (.load none (t 18)), L 20 (.len false (t 19)), L 21 (.buildSlice 1 4 [.int .i64 0] [(0, 1, (t 11)), (1, 1, (t 14)), (2, 1, (t 17)), (3, 1, (t 20))] false), L 22 (.call (.func 111) [(t 3), (t 5), (t 8), (t 21)]), N (.store 5 (t 2) (t 22) false)])
 (.ret))⟩
def f214 : LFunc := ⟨9, [1, 0, 2], [.cell 2 (some 5)],
 .seq (r [⟨(some 2), false, .alloc 5 [.int .i64 0, .int .i64 0, .string ⟨#[]⟩, .int .i64 0, .string ⟨#[]⟩], none⟩])
 (.seq (r [L 3 (.load none (t 0)), L 4 (.fieldAddr 0 (t 1)), L 5 (.load none (t 4)), L 6 (.fieldAddr 3 (t 1)), L 7 (.load none (t 6)), L 8 (.call (.func 113) [(t 3), (t 5), (t 7)]), N (.store 5 (t 2) (t 8) false)])
 (.ret))⟩
def f215 : LFunc := ⟨9, [1, 0, 2], [.cell 2 (some 5)],
 .seq (r [⟨(some 2), false, .alloc 5 [.int .i64 0, .int .i64 0, .string ⟨#[]⟩, .int .i64 0, .string ⟨#[]⟩], none⟩])
 (.seq (r [L 3 (.load none (t 0)), L 4 (.fieldAddr 0 (t 1)), L 5 (.load none (t 4)), L 6 (.fieldAddr 1 (t 1)), L 7 (.load none (t 6)), L 8 (.call (.func 216) [(t 3), (t 5), (t 7)]), N (.store 5 (t 2) (t 8) false)])
 (.ret))⟩
def f216 : LFunc := ⟨11, [3, 2, 4, 1, 0, 6], [.cell 6 (some 5)],
 .seq (r [K 3 (.box 1 (t 0) false), K 4 (.box 1 (t 1) false), ⟨(some 6), false, .alloc 5 [.int .i64 0, .int .i64 0, .string ⟨#[]⟩, .int .i64 0, .string ⟨#[]⟩], none⟩])
 (.seq (r [L 7 (.load none (t 4)), M 8 2, L 9 (.makeFunc (.func 271) [] [(t 3), (t 4)]), L 10 (.call (.func 270) [(t 7), (t 8), (t 9)]), N (.store 5 (t 6) (t 10) false)])
 (.ret))⟩
def f217 : LFunc := ⟨9, [1, 0, 2], [.cell 2 (some 5)],
 .seq (r [⟨(some 2), false, .alloc 5 [.int .i64 0, .int .i64 0, .string ⟨#[]⟩, .int .i64 0, .string ⟨#[]⟩], none⟩])
 (.seq (r [L 3 (.load none (t 0)), L 4 (.fieldAddr 0 (t 1)), L 5 (.load none (t 4)), L 6 (.fieldAddr 4 (t 1)), L 7 (.load none (t 6)), L 8 (.call (.func 115) [(t 3), (t 5), (t 7)]), N (.store 5 (t 2) (t 8) false)])
 (.ret))⟩
def f218 : LFunc := ⟨6, [1, 0, 2], [.cell 2 (some 5)],
 .seq (r [⟨(some 2), false, .alloc 5 [.int .i64 0, .int .i64 0, .string ⟨#[]⟩, .int .i64 0, .string ⟨#[]⟩], none⟩])
 (.seq (r [L 3 (.load none (t 0)), L 4 (.load (some 9) (t 1)), L 5 (.call (.func 219) [(t 3), (t 4)]), N (.store 5 (t 2) (t 5) false)])
 (.ret))⟩
def f219 : LFunc := ⟨11, [2, 3, 1, 0, 4], [.cell 4 (some 5)],
 .seq (r [K 2 (.box 1 (t 0) false), K 3 (.box 9 (t 1) false), ⟨(some 4), false, .alloc 5 [.int .i64 0, .int .i64 0, .string ⟨#[]⟩, .int .i64 0, .string ⟨#[]⟩], none⟩])
 (.seq (r [L 5 (.fieldAddr 0 (t 3)), L 6 (.load none (t 5)), L 7 (.fieldAddr 5 (t 3)), L 8 (.load none (t 7)), L 9 (.makeFunc (.func 274) [] [(t 3), (t 2)]), L 10 (.call (.func 273) [(t 6), (t 8), (t 9)]), N (.store 5 (t 4) (t 10) false)])
 (.ret))⟩
def f220 : LFunc := ⟨4, [0, 1], [.cell 1 (some 5)],
 .seq (r [⟨(some 1), false, .alloc 5 [.int .i64 0, .int .i64 0, .string ⟨#[]⟩, .int .i64 0, .string ⟨#[]⟩], none⟩])
 (.seq (r [L 2 (.load (some 9) (t 0)), L 3 (.call (.func 221) [(t 2)]), N (.store 5 (t 1) (t 3) false)])
 (.ret))⟩
def f221 : LFunc := ⟨9, [1, 0, 2], [.cell 2 (some 5)],
 .seq (r [K 1 (.box 9 (t 0) false), ⟨(some 2), false, .alloc 5 [.int .i64 0, .int .i64 0, .string ⟨#[]⟩, .int .i64 0, .string ⟨#[]⟩], none⟩])
 (.seq (r [L 3 (.fieldAddr 0 (t 1)), L 4 (.load none (t 3)), L 5 (.fieldAddr 6 (t 1)), L 6 (.load none (t 5)), L 7 (.makeFunc (.func 276) [] [(t 1)]), L 8 (.call (.func 275) [(t 4), (t 6), (t 7)]), N (.store 5 (t 2) (t 8) false)])
 (.ret))⟩
def f222 : LFunc := ⟨19, [14, 0, 1], [.cell 1 (some 5)],
 .seq (r [⟨(some 1), false, .alloc 5 [.int .i64 0, .int .i64 0, .string ⟨#[]⟩, .int .i64 0, .string ⟨#[]⟩], none⟩])
 (.seq (.seq (r [L 2 (.fieldAddr 2 (t 0)), L 3 (.load none (t 2)), L 4 (.bin .lss .none (t 3) (i 0)), M 5 4, G 6 5 false (.fieldAddr 2 (t 0)), G 7 5 false (.load none (t 6)), G 8 5 false (.bin .gtr .none (t 7) (i 2)), L 9 (.pick (t 5) (.const (.bool true)) (t 8)), M 10 9, G 11 10 false (.fieldAddr 7 (t 0)), G 12 10 false (.load none (t 11)), G 13 10 false (.bin .lss .none (t 12) (i 0)), K 14 (.pick (t 10) (.const (.bool true)) (t 13))])
 (.cond (t 14) (.seq (r [L 15 (.fieldAddr 0 (t 0)), L 16 (.load none (t 15)), ⟨(some 17), true, .build [.int .i64 0, .int .i64 0, .string ⟨#[]⟩, .int .i64 0, .string ⟨#[]⟩] [(0, 1, (i 1)), (2, 1, (t 16))], none⟩, N (.store 5 (t 1) (t 17) false)])
 (.ret)) (.skip)))
 (.seq (r [⟨(some 18), true, .build [.int .i64 0, .int .i64 0, .string ⟨#[]⟩, .int .i64 0, .string ⟨#[]⟩] [], none⟩, N (.store 5 (t 1) (t 18) false)])
 (.ret)))⟩
def f223 : LFunc := ⟨13, [5, 2, 7, 6, 1, 0, 4], [.tmp 4],
 .seq (r [K 2 (.box 1 (t 0) false), K 4 (.mov (.const (.slice none 0 0)))])
 (.seq (.seq (r [J 6 1])
 (.block 0 (.rangeFunc (t 6) [7] (r [J 5 7]) (.block 1 (r [L 8 (.load none (t 2)), M 9 5, L 10 (.buildSlice 1 1 [.int .i64 0] [(0, 1, (t 9))] false), L 11 (.append 1 8 (t 8) (t 10)), N (.store 1 (t 2) (t 11) false)])))))
 (.seq (r [L 12 (.load none (t 2)), J 4 12])
 (.ret)))⟩
def f224 : LFunc := ⟨61, [9, 44, 15, 3, 37, 14, 11, 20, 23, 21, 22, 2, 1, 0, 8], [.cell 8 (some 1)],
 .seq (r [K 8 (.alloc 1 [.slice none 0 0])])
 (.seq (r [M 16 0, M 17 1, L 18 (.call (.func 12) [(t 16), (t 17)]), L 19 (.call (.func 13) [(t 18)]), K 9 (.alloc 1 [.slice none 0 0]), N (.store 1 (t 9) (t 19) false)])
 (.seq (.seq (r [J 20 2, K 21 (.len false (t 20)), K 22 (.mov (i 0))])
 (.block 0 (.loop [] (.seq (r [K 23 (.bin .lss .none (t 22) (t 21))])
 (.seq (.cond (t 23) (.skip) (.exit 0))
 (.seq (.block 1 (.seq (r [L 24 (.indexSl 5 (t 20) (t 22)), L 25 (.load (some 5) (t 24)), ⟨(some 11), false, .alloc 5 [.slice none 0 0, .int .i64 0, .int .i64 0, .int .i64 0, .string ⟨#[]⟩], none⟩, N (.store 5 (t 11) (t 25) false)])
 (.seq (.seq (.region [M 27 0, L 28 (.call (.func 45) [(t 27)]), M 29 1, L 30 (.fieldAddr 0 (t 11)), L 31 (.load none (t 30)), L 32 (.call (.func 44) [(t 28), (t 29), (t 31)]), M 26 32, L 33 (.extract (t 26) 0), L 34 (.extract (t 26) 1), L 35 (.extract (t 26) 2), ⟨(some 12), true, .alloc 4 [.string ⟨#[]⟩, .int .i64 0, .bool false, .string ⟨#[]⟩], none⟩, N (.store 4 (t 12) (t 33) false), M 13 34, J 14 35] [(4, 1)])
 (.seq (r [M 36 14, K 37 (.bin .neq .none (t 36) (i 0))])
 (.cond (t 37) (.seq (r [L 38 (.build [.slice none 0 0] []), N (.store 1 (t 8) (t 38) false)])
 (.ret)) (.skip))))
 (.seq (r [M 39 3, L 40 (.fieldAddr 0 (t 11)), L 41 (.load none (t 40)), L 42 (.call (t 39) [(t 41)]), J 15 42])
 (.seq (r [M 43 15, K 44 (.bin .neq .ptr (t 43) (.const (.pointer none)))])
 (.cond (t 44) (.region [L 45 (.load (some 1) (t 9)), M 46 15, L 47 (.fieldAddr 1 (t 11)), L 48 (.load none (t 47)), L 49 (.fieldAddr 2 (t 11)), L 50 (.load (some 3) (t 49)), L 51 (.call (.func 277) [(t 46), (t 48), (t 50)]), L 52 (.call (.func 179) [(t 45), (t 51)]), N (.store 1 (t 9) (t 52) false)] [(0, 6)]) (.region [L 53 (.load (some 1) (t 9)), M 54 0, M 55 1, L 56 (.load (some 5) (t 11)), L 57 (.call (.func 278) [(t 54), (t 55), (t 56)]), L 58 (.call (.func 179) [(t 53), (t 57)]), N (.store 1 (t 9) (t 58) false)] [(0, 4)])))))))
 (r [L 59 (.bin .add .none (t 22) (i 1)), J 22 59])))))))
 (.seq (r [L 60 (.load (some 1) (t 9)), N (.store 1 (t 8) (t 60) false)])
 (.ret))))⟩
def f225 : LFunc := ⟨3, [2], [.tmp 2],
 .seq (r [K 2 (.mov (.const (.pointer none)))])
 (.seq (r [K 2 (.mov (.const (.pointer none)))])
 (.ret))⟩
def f226 : LFunc := ⟨50, [8, 42, 9, 38, 6, 28, 7, 24, 5, 20, 19, 0, 15, 1, 4], [.tmp 4],
 .seq (r [K 4 (.mov (.const (.slice none 0 0)))])
 (.seq (.seq (r [M 10 1, L 11 (.bin .lss .none (t 10) (i 0)), M 12 11, G 13 12 false (.mov (t 1)), G 14 12 false (.bin .gtr .none (t 13) (i 4)), K 15 (.pick (t 12) (.const (.bool true)) (t 14))])
 (.cond (t 15) (.seq (r [K 4 (.mov (.const (.slice none 0 0)))])
 (.ret)) (.skip)))
 (.seq (r [M 16 1, L 17 (.bin .shl .none (i 1) (t 16)), L 18 (.bin .sub .none (t 17) (i 1)), J 5 18])
 (.seq (.seq (r [J 19 0])
 (.block 0 (.seq (r [L 21 (.bin .eql .none (t 19) (i 0)), J 20 21])
 (.cond (t 20) (.seq (r [M 22 5, L 23 (.buildSlice 1 1 [.int .i64 0] [(0, 1, (t 22))] false), J 4 23])
 (.ret)) (.seq (r [L 25 (.bin .eql .none (t 19) (i 1)), J 24 25])
 (.cond (t 24) (.seq (r [K 6 (.mov (.const (.slice none 0 0)))])
 (.seq (.seq (r [M 26 5, J 7 26])
 (.block 1 (.loop [] (.seq (.seq (r [M 27 7, K 28 (.bin .gtr .none (t 27) (i 0))])
 (.cond (t 28) (.skip) (.exit 1)))
 (.seq (.block 2 (r [M 31 6, M 32 7, L 33 (.buildSlice 1 1 [.int .i64 0] [(0, 1, (t 32))] false), L 34 (.append 1 8 (t 31) (t 33)), J 6 34]))
 (r [M 29 7, L 30 (.bin .shr .none (t 29) (.const (.int .u64 1))), J 7 30]))))))
 (.seq (r [M 35 6, L 36 (.buildSlice 1 1 [.int .i64 0] [(0, 1, (i 0))] false), L 37 (.append 1 8 (t 35) (t 36)), J 4 37])
 (.ret)))) (.seq (r [L 39 (.bin .eql .none (t 19) (i 2)), J 38 39])
 (.cond (t 38) (.seq (r [K 8 (.mov (.const (.slice none 0 0)))])
 (.seq (.seq (r [M 40 5, J 9 40])
 (.block 3 (.loop [] (.seq (.seq (r [M 41 9, K 42 (.bin .geq .none (t 41) (i 0))])
 (.cond (t 42) (.skip) (.exit 3)))
 (.seq (.block 4 (r [M 45 8, M 46 9, L 47 (.buildSlice 1 1 [.int .i64 0] [(0, 1, (t 46))] false), L 48 (.append 1 8 (t 45) (t 47)), J 8 48]))
 (r [M 43 9, L 44 (.bin .sub .none (t 43) (i 1)), J 9 44]))))))
 (.seq (r [M 49 8, J 4 49])
 (.ret)))) (.skip)))))))))
 (.seq (r [K 4 (.mov (.const (.slice none 0 0)))])
 (.ret)))))⟩
def f227 : LFunc := ⟨71, [61, 13, 12, 40, 43, 41, 42, 10, 3, 33, 11, 9, 7, 8, 1, 18, 16, 17, 5, 2, 0, 6], [.tmp 6],
 .seq (r [K 3 (.box 9 (t 0) false), K 5 (.box 3 (t 2) false), K 6 (.mov (.const (.pointer none)))])
 (.seq (r [L 14 (.call (.func 279) [(.func 11)]), J 7 14])
 (.seq (.seq (r [L 15 (.fieldAddr 0 (t 5)), K 16 (.load none (t 15)), K 17 (.mov (i 0))])
 (.block 0 (.loop [] (.seq (r [K 18 (.bin .lss .none (t 17) (t 16))])
 (.seq (.cond (t 18) (.skip) (.exit 0))
 (.seq (.block 1 (.seq (r [M 19 17, J 8 19])
 (.seq (r [M 20 1, L 21 (.fieldAddr 1 (t 5)), L 22 (.load none (t 21)), M 23 8, L 24 (.call (t 22) [(t 23)]), L 25 (.call (.func 280) [(t 20), (t 24)]), J 9 25])
 (.seq (r [M 27 7, M 28 9, L 29 (.call (.func 281) [(t 27), (t 28)]), M 26 29, L 30 (.extract (t 26) 0), L 31 (.extract (t 26) 1), J 10 30, J 11 31])
 (.seq (.seq (r [M 32 11, K 33 (.un .not (t 32))])
 (.cond (t 33) (.seq (r [L 34 (.load (some 9) (t 3)), L 35 (.call (.func 282) [(t 34)]), J 10 35])
 (r [M 36 7, M 37 9, M 38 10, L 39 (.call (.func 283) [(t 36), (t 37), (t 38)])])) (.skip)))
 (.seq (r [J 40 10, K 41 (.len false (t 40)), K 42 (.mov (i 0))])
 (.block 2 (.loop [] (.seq (r [K 43 (.bin .lss .none (t 42) (t 41))])
 (.seq (.cond (t 43) (.skip) (.exit 2))
 (.seq (.block 3 (.seq (r [M 44 42, L 45 (.indexSl 1 (t 40) (t 42)), L 46 (.load none (t 45)), J 12 44, J 13 46])
 (r [L 47 (.fieldAddr 2 (t 5)), L 48 (.load none (t 47)), M 49 8, M 50 12, M 51 13, L 52 (.call (t 48) [(t 49), (t 50), (t 51)])])))
 (r [L 53 (.bin .add .none (t 42) (i 1)), J 42 53]))))))))))))
 (r [L 54 (.bin .add .none (t 17) (i 1)), J 17 54])))))))
 (.seq (.seq (r [M 55 1, L 56 (.bin .eql .none (t 55) (i 0)), M 57 56, G 58 57 true (.mov (t 7)), G 59 57 true (.call (.func 284) [(t 58)]), G 60 57 true (.bin .eql .none (t 59) (i 0)), K 61 (.pick (t 57) (t 60) (.const (.bool false)))])
 (.cond (t 61) (.region [M 62 7, L 63 (.fieldAddr 3 (t 3)), L 64 (.load none (t 63)), L 65 (.len false (t 64)), ⟨(some 66), true, .makeSlice 3 32 [.int .i64 0, .int .i64 0, .string ⟨#[]⟩] (t 65) (t 65), none⟩, L 67 (.load (some 9) (t 3)), L 68 (.call (.func 282) [(t 67)]), L 69 (.call (.func 283) [(t 62), (t 66), (t 68)])] [(2, 6)]) (.skip)))
 (.seq (r [M 70 7, J 6 70])
 (.ret)))))⟩
def f228 : LFunc := ⟨4, [1, 0, 2], [.tmp 2],
 .seq (r [K 1 (.box 1 (t 0) false), K 2 (.mov (.const (.nilFunc)))])
 (.seq (r [L 3 (.makeFunc (.func 285) [] [(t 1)]), J 2 3])
 (.ret))⟩
def f229 : LFunc := ⟨24, [16, 5, 2, 1, 0, 4], [.tmp 4],
 .seq (r [K 2 (.box 9 (t 0) false), K 4 (.mov (.const (.slice none 0 0)))])
 (.seq (r [M 6 1, L 7 (.call (.func 288) [(t 6)]), L 8 (.makeFunc (.func 289) [] [(t 2)]), L 9 (.call (.func 287) [(t 7), (t 8)]), L 10 (.call (.func 286) [(t 9)]), J 5 10])
 (.seq (r [M 11 5, L 12 (.makeFunc (.func 295) [] [(t 2)]), L 13 (.call (.func 294) [(t 11), (t 12)])])
 (.seq (.seq (r [L 14 (.fieldAddr 7 (t 2)), L 15 (.load none (t 14)), K 16 (.bin .gtr .none (t 15) (i 0))])
 (.cond (t 16) (.region [M 17 5, L 18 (.call (.func 288) [(t 17)]), L 19 (.fieldAddr 7 (t 2)), L 20 (.load none (t 19)), L 21 (.call (.func 297) [(t 18), (t 20)]), L 22 (.call (.func 286) [(t 21)]), J 5 22] [(3, 1)]) (.skip)))
 (.seq (r [M 23 5, J 4 23])
 (.ret)))))⟩
def f230 : LFunc := ⟨37, [26, 5, 4, 11, 0, 6, 2, 3], [.tmp 2, .tmp 3],
 .seq (r [K 2 (.mov (.const (.pointer none))), K 3 (.mov (.const (.slice none 0 0)))])
 (.seq (r [L 7 (.call (.func 23) []), J 4 7])
 (.seq (r [K 5 (.mov (.const (.slice none 0 0)))])
 (.seq (.seq (r [K 6 (.mov (i 0))])
 (.block 0 (.loop [] (.seq (.seq (r [M 8 6, M 9 0, L 10 (.len false (t 9)), K 11 (.bin .lss .none (t 8) (t 10))])
 (.cond (t 11) (.skip) (.exit 0)))
 (.seq (.block 1 (.seq (r [M 14 4, M 15 0, M 16 6, L 17 (.indexSl 4 (t 15) (t 16)), L 18 (.load (some 4) (t 17)), L 19 (.call (.func 105) [(t 14), (t 18)])])
 (.seq (r [M 20 5, M 21 0, M 22 6, L 23 (.indexSl 4 (t 21) (t 22)), L 24 (.load (some 4) (t 23)), L 25 (.call (.func 107) [(t 20), (t 24)]), K 26 (.bin .eql .none (t 25) (i 0))])
 (.cond (t 26) (r [M 27 5, M 28 0, M 29 6, L 30 (.indexSl 4 (t 28) (t 29)), L 31 (.load (some 4) (t 30)), L 32 (.call (.func 108) [(t 31)]), ⟨(some 33), true, .buildSlice 4 1 [.string ⟨#[]⟩, .slice none 0 0, .string ⟨#[]⟩, .slice none 0 0] [(0, 4, (t 32))] false, none⟩, L 34 (.append 4 80 (t 27) (t 33)), J 5 34]) (.skip)))))
 (r [M 12 6, L 13 (.bin .add .none (t 12) (i 1)), J 6 13]))))))
 (.seq (r [M 35 4, M 36 5, J 2 35, J 3 36])
 (.ret)))))⟩
def f231 : LFunc := ⟨2, [0], [.tmp 0],
 .seq (r [K 0 (.mov (.const (.bool false)))])
 (.seq (r [L 1 (.call (.func 298) []), J 0 1])
 (.ret))⟩
def f232 : LFunc := ⟨2, [0], [.tmp 0],
 .seq (r [K 0 (.mov (.const (.bool false)))])
 (.seq (r [L 1 (.call (.func 299) []), J 0 1])
 (.ret))⟩
def f233 : LFunc := ⟨5, [1, 0, 2], [.tmp 2],
 .seq (r [K 1 (.box 1 (t 0) false), K 2 (.mov (i 0))])
 (.seq (r [L 3 (.load (some 1) (t 1)), L 4 (.call (.func 300) [(t 3), (i 65536)]), J 2 4])
 (.ret))⟩
def f234 : LFunc := ⟨5, [0, 2], [.cell 2 (some 3)],
 .seq (r [⟨(some 2), false, .alloc 3 [.int .i64 0, .int .i64 0, .string ⟨#[]⟩], none⟩])
 (.seq (r [M 3 0, ⟨(some 4), true, .build [.int .i64 0, .int .i64 0, .string ⟨#[]⟩] [(0, 1, (i 1)), (1, 1, (t 3))], none⟩, N (.store 3 (t 2) (t 4) false)])
 (.ret))⟩
def f237 : LFunc := ⟨9, [0, 2], [.tmp 2],
 .seq (r [K 2 (.mov (.const (.bool false)))])
 (.seq (r [M 3 0, L 4 (.bin .geq .none (t 3) (.const (.int .u8 48))), M 5 4, G 6 5 true (.mov (t 0)), G 7 5 true (.bin .leq .none (t 6) (.const (.int .u8 57))), L 8 (.pick (t 5) (t 7) (.const (.bool false))), J 2 8])
 (.ret))⟩
def f238 : LFunc := ⟨43, [4, 3, 0, 2], [.tmp 2],
 .seq (r [K 2 (.mov (.const (.bool false)))])
 (.seq (.seq (r [J 3 0])
 (.block 0 (.seq (.seq (r [⟨(some 5), true, .bin .eql .none (t 3) (.const (.string ⟨#[116, 97, 98, 108, 101]⟩)), none⟩, J 4 5])
 (.cond (t 4) (.skip) (.seq (r [⟨(some 6), true, .bin .eql .none (t 3) (.const (.string ⟨#[107, 101, 121]⟩)), none⟩, J 4 6])
 (.cond (t 4) (.skip) (.seq (r [⟨(some 7), true, .bin .eql .none (t 3) (.const (.string ⟨#[102, 100]⟩)), none⟩, J 4 7])
 (.cond (t 4) (.skip) (.seq (r [⟨(some 8), true, .bin .eql .none (t 3) (.const (.string ⟨#[105, 110, 116]⟩)), none⟩, J 4 8])
 (.cond (t 4) (.skip) (.seq (r [⟨(some 9), true, .bin .eql .none (t 3) (.const (.string ⟨#[116, 101, 120, 116]⟩)), none⟩, J 4 9])
 (.cond (t 4) (.skip) (.seq (r [⟨(some 10), true, .bin .eql .none (t 3) (.const (.string ⟨#[109, 117, 115, 116]⟩)), none⟩, J 4 10])
 (.cond (t 4) (.skip) (.seq (r [⟨(some 11), true, .bin .eql .none (t 3) (.const (.string ⟨#[116, 111]⟩)), none⟩, J 4 11])
 (.cond (t 4) (.skip) (.seq (r [⟨(some 12), true, .bin .eql .none (t 3) (.const (.string ⟨#[108, 111, 97, 100]⟩)), none⟩, J 4 12])
 (.cond (t 4) (.skip) (.seq (r [⟨(some 13), true, .bin .eql .none (t 3) (.const (.string ⟨#[105, 110, 115, 101, 114, 116]⟩)), none⟩, J 4 13])
 (.cond (t 4) (.skip) (.seq (r [⟨(some 14), true, .bin .eql .none (t 3) (.const (.string ⟨#[100, 101, 108, 101, 116, 101]⟩)), none⟩, J 4 14])
 (.cond (t 4) (.skip) (.seq (r [⟨(some 15), true, .bin .eql .none (t 3) (.const (.string ⟨#[117, 112, 100, 97, 116, 101]⟩)), none⟩, J 4 15])
 (.cond (t 4) (.skip) (.seq (r [⟨(some 16), true, .bin .eql .none (t 3) (.const (.string ⟨#[115, 117, 109, 109, 97, 114, 121]⟩)), none⟩, J 4 16])
 (.cond (t 4) (.skip) (.seq (r [⟨(some 17), true, .bin .eql .none (t 3) (.const (.string ⟨#[111, 110]⟩)), none⟩, J 4 17])
 (.cond (t 4) (.skip) (.seq (r [⟨(some 18), true, .bin .eql .none (t 3) (.const (.string ⟨#[98, 121]⟩)), none⟩, J 4 18])
 (.cond (t 4) (.skip) (.seq (r [⟨(some 19), true, .bin .eql .none (t 3) (.const (.string ⟨#[107, 101, 101, 112]⟩)), none⟩, J 4 19])
 (.cond (t 4) (.skip) (.seq (r [⟨(some 20), true, .bin .eql .none (t 3) (.const (.string ⟨#[100, 114, 111, 112]⟩)), none⟩, J 4 20])
 (.cond (t 4) (.skip) (.seq (r [⟨(some 21), true, .bin .eql .none (t 3) (.const (.string ⟨#[102, 114, 111, 109]⟩)), none⟩, J 4 21])
 (.cond (t 4) (.skip) (.seq (r [⟨(some 22), true, .bin .eql .none (t 3) (.const (.string ⟨#[119, 104, 101, 114, 101]⟩)), none⟩, J 4 22])
 (.cond (t 4) (.skip) (.seq (r [⟨(some 23), true, .bin .eql .none (t 3) (.const (.string ⟨#[97, 110, 100]⟩)), none⟩, J 4 23])
 (.cond (t 4) (.skip) (.seq (r [⟨(some 24), true, .bin .eql .none (t 3) (.const (.string ⟨#[105, 115]⟩)), none⟩, J 4 24])
 (.cond (t 4) (.skip) (.seq (r [⟨(some 25), true, .bin .eql .none (t 3) (.const (.string ⟨#[110, 111, 116]⟩)), none⟩, J 4 25])
 (.cond (t 4) (.skip) (.seq (r [⟨(some 26), true, .bin .eql .none (t 3) (.const (.string ⟨#[110, 117, 108, 108]⟩)), none⟩, J 4 26])
 (.cond (t 4) (.skip) (.seq (r [⟨(some 27), true, .bin .eql .none (t 3) (.const (.string ⟨#[114, 111, 108, 108, 117, 112]⟩)), none⟩, J 4 27])
 (.cond (t 4) (.skip) (.seq (r [⟨(some 28), true, .bin .eql .none (t 3) (.const (.string ⟨#[99, 117, 98, 101]⟩)), none⟩, J 4 28])
 (.cond (t 4) (.skip) (.seq (r [⟨(some 29), true, .bin .eql .none (t 3) (.const (.string ⟨#[115, 104, 111, 119]⟩)), none⟩, J 4 29])
 (.cond (t 4) (.skip) (.seq (r [⟨(some 30), true, .bin .eql .none (t 3) (.const (.string ⟨#[104, 97, 118, 105, 110, 103]⟩)), none⟩, J 4 30])
 (.cond (t 4) (.skip) (.seq (r [⟨(some 31), true, .bin .eql .none (t 3) (.const (.string ⟨#[111, 114, 100, 101, 114]⟩)), none⟩, J 4 31])
 (.cond (t 4) (.skip) (.seq (r [⟨(some 32), true, .bin .eql .none (t 3) (.const (.string ⟨#[100, 101, 115, 99]⟩)), none⟩, J 4 32])
 (.cond (t 4) (.skip) (.seq (r [⟨(some 33), true, .bin .eql .none (t 3) (.const (.string ⟨#[108, 105, 109, 105, 116]⟩)), none⟩, J 4 33])
 (.cond (t 4) (.skip) (.seq (r [⟨(some 34), true, .bin .eql .none (t 3) (.const (.string ⟨#[117, 115, 105, 110, 103]⟩)), none⟩, J 4 34])
 (.cond (t 4) (.skip) (.seq (r [⟨(some 35), true, .bin .eql .none (t 3) (.const (.string ⟨#[98, 97, 115, 101]⟩)), none⟩, J 4 35])
 (.cond (t 4) (.skip) (.seq (r [⟨(some 36), true, .bin .eql .none (t 3) (.const (.string ⟨#[99, 111, 117, 110, 116]⟩)), none⟩, J 4 36])
 (.cond (t 4) (.skip) (.seq (r [⟨(some 37), true, .bin .eql .none (t 3) (.const (.string ⟨#[115, 117, 109]⟩)), none⟩, J 4 37])
 (.cond (t 4) (.skip) (.seq (r [⟨(some 38), true, .bin .eql .none (t 3) (.const (.string ⟨#[109, 105, 110]⟩)), none⟩, J 4 38])
 (.cond (t 4) (.skip) (.seq (r [⟨(some 39), true, .bin .eql .none (t 3) (.const (.string ⟨#[109, 97, 120]⟩)), none⟩, J 4 39])
 (.cond (t 4) (.skip) (.seq (r [⟨(some 40), true, .bin .eql .none (t 3) (.const (.string ⟨#[97, 118, 103]⟩)), none⟩, J 4 40])
 (.cond (t 4) (.skip) (.seq (r [⟨(some 41), true, .bin .eql .none (t 3) (.const (.string ⟨#[100, 105, 115, 116, 105, 110, 99, 116]⟩)), none⟩, J 4 41])
 (.cond (t 4) (.skip) (r [⟨(some 42), true, .bin .eql .none (t 3) (.const (.string ⟨#[114, 111, 119, 115]⟩)), none⟩, J 4 42])))))))))))))))))))))))))))))))))))))))))))))))))))))))))))))))))))))))))))
 (.cond (t 4) (.seq (r [K 2 (.mov (.const (.bool true)))])
 (.ret)) (.skip)))))
 (.seq (r [K 2 (.mov (.const (.bool false)))])
 (.ret)))⟩
def f239 : LFunc := ⟨13, [0, 2], [.tmp 2],
 .seq (r [K 2 (.mov (.const (.bool false)))])
 (.seq (r [M 3 0, L 4 (.bin .geq .none (t 3) (.const (.int .u8 97))), M 5 4, G 6 5 true (.mov (t 0)), G 7 5 true (.bin .leq .none (t 6) (.const (.int .u8 122))), L 8 (.pick (t 5) (t 7) (.const (.bool false))), M 9 8, G 10 9 false (.mov (t 0)), G 11 9 false (.bin .eql .none (t 10) (.const (.int .u8 95))), L 12 (.pick (t 9) (.const (.bool true)) (t 11)), J 2 12])
 (.ret))⟩
def f240 : LFunc := ⟨9, [1, 0, 4], [.tmp 4],
 .seq (r [K 4 (.mov (.const (.bool false)))])
 (.seq (r [M 5 0, M 6 1, L 7 (.call (.func 301) [(t 5), (t 6)]), L 8 (.bin .geq .none (t 7) (i 0)), J 4 8])
 (.ret))⟩
def f241 : LFunc := ⟨19, [16, 5, 1, 9, 7, 8, 0, 4], [.tmp 4],
 .seq (r [K 4 (.mov (i 0))])
 (.seq (.seq (r [M 6 0, K 7 (.len false (t 6)), K 8 (.mov (i 0))])
 (.block 0 (.loop [] (.seq (r [K 9 (.bin .lss .none (t 8) (t 7))])
 (.seq (.cond (t 9) (.skip) (.exit 0))
 (.seq (.block 1 (.seq (r [M 10 8, J 5 10])
 (.seq (r [M 11 1, M 12 0, M 13 5, L 14 (.indexSl 2 (t 12) (t 13)), L 15 (.load (some 2) (t 14)), K 16 (.call (t 11) [(t 15)])])
 (.cond (t 16) (.seq (r [M 17 5, J 4 17])
 (.ret)) (.skip)))))
 (r [L 18 (.bin .add .none (t 8) (i 1)), J 8 18])))))))
 (.seq (r [K 4 (.mov (i (-1)))])
 (.ret)))⟩
def f242 : LFunc := ⟨8, [0, 1, 3], [.tmp 3],
 .seq (r [K 3 (.mov (.const (.bool false)))])
 (.seq (r [L 4 (.load (some 4) (t 1)), M 5 0, L 6 (.call (.func 94) [(t 4), (t 5)]), L 7 (.bin .lss .none (t 6) (i 0)), J 3 7])
 (.ret))⟩
def f243 : LFunc := ⟨9, [1, 0, 4], [.tmp 4],
 .seq (r [K 4 (.mov (.const (.bool false)))])
 (.seq (r [M 5 0, M 6 1, L 7 (.call (.func 302) [(t 5), (t 6)]), L 8 (.bin .geq .none (t 7) (i 0)), J 4 8])
 (.ret))⟩
def f244 : LFunc := ⟨9, [0, 2], [.tmp 2],
 .seq (r [K 2 (.mov (.const (.bool false)))])
 (.seq (r [M 3 0, L 4 (.bin .geq .none (t 3) (.const (.int .u8 48))), M 5 4, G 6 5 true (.mov (t 0)), G 7 5 true (.bin .leq .none (t 6) (.const (.int .u8 57))), L 8 (.pick (t 5) (t 7) (.const (.bool false))), J 2 8])
 (.ret))⟩
def f245 : LFunc := ⟨18, [17, 0, 9, 3, 4, 2], [.tmp 2],
 .seq (r [K 2 (.mov (.const (.bool false)))])
 (.seq (r [⟨(some 5), true, .buildSlice 1 38 [.string ⟨#[]⟩] [(0, 1, (.const (.string ⟨#[116, 97, 98, 108, 101]⟩))), (1, 1, (.const (.string ⟨#[107, 101, 121]⟩))), (2, 1, (.const (.string ⟨#[102, 100]⟩))), (3, 1, (.const (.string ⟨#[105, 110, 116]⟩))), (4, 1, (.const (.string ⟨#[116, 101, 120, 116]⟩))), (5, 1, (.const (.string ⟨#[109, 117, 115, 116]⟩))), (6, 1, (.const (.string ⟨#[116, 111]⟩))), (7, 1, (.const (.string ⟨#[108, 111, 97, 100]⟩))), (8, 1, (.const (.string ⟨#[105, 110, 115, 101, 114, 116]⟩))), (9, 1, (.const (.string ⟨#[100, 101, 108, 101, 116, 101]⟩))), (10, 1, (.const (.string ⟨#[117, 112, 100, 97, 116, 101]⟩))), (11, 1, (.const (.string ⟨#[115, 117, 109, 109, 97, 114, 121]⟩))), (12, 1, (.const (.string ⟨#[111, 110]⟩))), (13, 1, (.const (.string ⟨#[98, 121]⟩))), (14, 1, (.const (.string ⟨#[107, 101, 101, 112]⟩))), (15, 1, (.const (.string ⟨#[100, 114, 111, 112]⟩))), (16, 1, (.const (.string ⟨#[102, 114, 111, 109]⟩))), (17, 1, (.const (.string ⟨#[119, 104, 101, 114, 101]⟩))), (18, 1, (.const (.string ⟨#[97, 110, 100]⟩))), (19, 1, (.const (.string ⟨#[105, 115]⟩))), (20, 1, (.const (.string ⟨#[110, 111, 116]⟩))), (21, 1, (.const (.string ⟨#[110, 117, 108, 108]⟩))), (22, 1, (.const (.string ⟨#[114, 111, 108, 108, 117, 112]⟩))), (23, 1, (.const (.string ⟨#[99, 117, 98, 101]⟩))), (24, 1, (.const (.string ⟨#[115, 104, 111, 119]⟩))), (25, 1, (.const (.string ⟨#[104, 97, 118, 105, 110, 103]⟩))), (26, 1, (.const (.string ⟨#[111, 114, 100, 101, 114]⟩))), (27, 1, (.const (.string ⟨#[100, 101, 115, 99]⟩))), (28, 1, (.const (.string ⟨#[108, 105, 109, 105, 116]⟩))), (29, 1, (.const (.string ⟨#[117, 115, 105, 110, 103]⟩))), (30, 1, (.const (.string ⟨#[98, 97, 115, 101]⟩))), (31, 1, (.const (.string ⟨#[99, 111, 117, 110, 116]⟩))), (32, 1, (.const (.string ⟨#[115, 117, 109]⟩))), (33, 1, (.const (.string ⟨#[109, 105, 110]⟩))), (34, 1, (.const (.string ⟨#[109, 97, 120]⟩))), (35, 1, (.const (.string ⟨#[97, 118, 103]⟩))), (36, 1, (.const (.string ⟨#[100, 105, 115, 116, 105, 110, 99, 116]⟩))), (37, 1, (.const (.string ⟨#[114, 111, 119, 115]⟩)))] false, none⟩, J 3 5])
 (.seq (.seq (r [K 4 (.mov (i 0))])
 (.block 0 (.loop [] (.seq (.seq (r [M 6 4, M 7 3, L 8 (.len false (t 7)), K 9 (.bin .lss .none (t 6) (t 8))])
 (.cond (t 9) (.skip) (.exit 0)))
 (.seq (.block 1 (.seq (r [M 12 3, M 13 4, L 14 (.indexSl 1 (t 12) (t 13)), L 15 (.load none (t 14)), M 16 0, K 17 (.bin .eql .none (t 15) (t 16))])
 (.cond (t 17) (.seq (r [K 2 (.mov (.const (.bool true)))])
 (.ret)) (.skip))))
 (r [M 10 4, L 11 (.bin .add .none (t 10) (i 1)), J 4 11]))))))
 (.seq (r [K 2 (.mov (.const (.bool false)))])
 (.ret))))⟩
def f246 : LFunc := ⟨13, [0, 2], [.tmp 2],
 .seq (r [K 2 (.mov (.const (.bool false)))])
 (.seq (r [M 3 0, L 4 (.bin .eql .none (t 3) (.const (.int .u8 95))), M 5 4, G 6 5 false (.mov (t 0)), G 7 5 false (.bin .geq .none (t 6) (.const (.int .u8 97))), G 8 5 false (.mov (t 7)), G 9 8 true (.mov (t 0)), G 10 8 true (.bin .leq .none (t 9) (.const (.int .u8 122))), G 11 5 false (.pick (t 8) (t 10) (.const (.bool false))), L 12 (.pick (t 5) (.const (.bool true)) (t 11)), J 2 12])
 (.ret))⟩
def f247 : LFunc := ⟨53, [34, 0, 3, 9, 14, 2, 8, 1], [],
 .seq (r [M 10 1, L 11 (.bin .add .none (t 10) (i 1)), J 8 11])
 (.block 0 (.loop [] (.seq (.seq (r [M 12 8, M 13 2, K 14 (.bin .lss .none (t 12) (t 13))])
 (.cond (t 14) (.skip) (.exit 0)))
 (.seq (.block 1 (.seq (r [M 17 8, J 9 17])
 (.block 2 (.loop [] (.seq (.seq (r [M 18 9, M 19 1, L 20 (.bin .gtr .none (t 18) (t 19)), M 21 20, G 22 21 true (.mov (t 3)), G 23 21 true (.mov (t 0)), G 24 21 true (.mov (t 9)), G 25 21 true (.indexSl 2 (t 23) (t 24)), G 26 21 true (.load (some 2) (t 25)), G 27 21 true (.mov (t 0)), G 28 21 true (.mov (t 9)), G 29 21 true (.bin .sub .none (t 28) (i 1)), G 30 21 true (.indexSl 2 (t 27) (t 29)), G 31 21 true (.load (some 2) (t 30)), G 32 21 true (.call (t 22) [(t 26), (t 31)]), G 33 21 true (.bin .lss .none (t 32) (i 0)), K 34 (.pick (t 21) (t 33) (.const (.bool false)))])
 (.cond (t 34) (.skip) (.exit 2)))
 (.seq (.block 3 (r [M 37 0, M 38 9, M 39 0, M 40 9, L 41 (.bin .sub .none (t 40) (i 1)), M 42 0, M 43 9, L 44 (.bin .sub .none (t 43) (i 1)), L 45 (.indexSl 2 (t 42) (t 44)), L 46 (.load (some 2) (t 45)), M 47 0, M 48 9, L 49 (.indexSl 2 (t 47) (t 48)), L 50 (.load (some 2) (t 49)), L 51 (.indexSl 2 (t 37) (t 38)), N (.store 2 (t 51) (t 46) false), L 52 (.indexSl 2 (t 39) (t 41)), N (.store 2 (t 52) (t 50) false)]))
 (r [M 35 9, L 36 (.bin .sub .none (t 35) (i 1)), J 9 36])))))))
 (r [M 15 8, L 16 (.bin .add .none (t 15) (i 1)), J 8 16])))))⟩
def f256 : LFunc := ⟨49, [30, 0, 7, 12, 2, 6, 1], [],
 .seq (r [M 8 1, L 9 (.bin .add .none (t 8) (i 1)), J 6 9])
 (.block 0 (.loop [] (.seq (.seq (r [M 10 6, M 11 2, K 12 (.bin .lss .none (t 10) (t 11))])
 (.cond (t 12) (.skip) (.exit 0)))
 (.seq (.block 1 (.seq (r [M 15 6, J 7 15])
 (.block 2 (.loop [] (.seq (.seq (r [M 16 7, M 17 1, L 18 (.bin .gtr .none (t 16) (t 17)), M 19 18, G 20 19 true (.mov (t 0)), G 21 19 true (.mov (t 7)), G 22 19 true (.indexSl 1 (t 20) (t 21)), G 23 19 true (.load none (t 22)), G 24 19 true (.mov (t 0)), G 25 19 true (.mov (t 7)), G 26 19 true (.bin .sub .none (t 25) (i 1)), G 27 19 true (.indexSl 1 (t 24) (t 26)), G 28 19 true (.load none (t 27)), G 29 19 true (.call (.func 262) [(t 23), (t 28)]), K 30 (.pick (t 19) (t 29) (.const (.bool false)))])
 (.cond (t 30) (.skip) (.exit 2)))
 (.seq (.block 3 (r [M 33 0, M 34 7, M 35 0, M 36 7, L 37 (.bin .sub .none (t 36) (i 1)), M 38 0, M 39 7, L 40 (.bin .sub .none (t 39) (i 1)), L 41 (.indexSl 1 (t 38) (t 40)), L 42 (.load none (t 41)), M 43 0, M 44 7, L 45 (.indexSl 1 (t 43) (t 44)), L 46 (.load none (t 45)), L 47 (.indexSl 1 (t 33) (t 34)), N (.store 1 (t 47) (t 42) false), L 48 (.indexSl 1 (t 35) (t 37)), N (.store 1 (t 48) (t 46) false)]))
 (r [M 31 7, L 32 (.bin .sub .none (t 31) (i 1)), J 7 32])))))))
 (r [M 13 6, L 14 (.bin .add .none (t 13) (i 1)), J 6 14])))))⟩
def f262 : LFunc := ⟨17, [1, 0, 4], [.tmp 4],
 .seq (r [K 4 (.mov (.const (.bool false)))])
 (.seq (r [M 5 0, L 6 (.call (.func 132) [(t 5)]), M 7 6, G 8 7 true (.mov (t 1)), G 9 7 true (.call (.func 132) [(t 8)]), G 10 7 true (.un .not (t 9)), L 11 (.pick (t 7) (t 10) (.const (.bool false))), M 12 11, G 13 12 false (.mov (t 0)), G 14 12 false (.mov (t 1)), G 15 12 false (.bin .lss .none (t 13) (t 14)), L 16 (.pick (t 12) (.const (.bool true)) (t 15)), J 4 16])
 (.ret))⟩
def f265 : LFunc := ⟨6, [0, 2], [.tmp 2],
 .seq (r [K 2 (.mov (.const (.pointer none)))])
 (.seq (r [M 3 0, L 4 (.build [.nilFunc, .slice none 0 0] [(0, 1, (t 3))]), L 5 (.box 2 (t 4) false), J 2 5])
 (.ret))⟩
def f266 : LFunc := ⟨8, [1, 0, 4], [.tmp 4],
 .seq (r [K 4 (.mov (i 0))])
 (.seq (r [M 5 0, M 6 1, L 7 (.call (.func 311) [(t 5), (t 6)]), J 4 7])
 (.ret))⟩
def f267 : LFunc := ⟨24, [1, 14, 2, 0, 4, 5], [.tmp 4, .tmp 5],
 .seq (r [K 2 (.box 1 (t 0) false), K 4 (.mov (i 0)), K 5 (.mov (.const (.bool false)))])
 (.seq (.seq (r [L 6 (.load none (t 2)), L 7 (.bin .eql .ptr (t 6) (.const (.pointer none))), M 8 7, G 9 8 false (.load none (t 2)), G 10 8 false (.nilCheck (t 9)), G 11 8 false (.fieldAddr 0 (t 10)), G 12 8 false (.load none (t 11)), G 13 8 false (.bin .eql .func (t 12) (.const (.nilFunc))), K 14 (.pick (t 8) (.const (.bool true)) (t 13))])
 (.cond (t 14) (.seq (r [K 4 (.mov (i 0)), K 5 (.mov (.const (.bool false)))])
 (.ret)) (.skip)))
 (.seq (r [L 15 (.load none (t 2)), L 16 (.nilCheck (t 15)), L 17 (.fieldAddr 1 (t 16)), L 18 (.load none (t 17)), M 19 1, L 20 (.makeFunc (.func 313) [] [(t 2)]), L 21 (.call (.func 312) [(t 18), (t 19), (t 20)]), L 22 (.extract (t 21) 0), L 23 (.extract (t 21) 1), J 4 22, J 5 23])
 (.ret)))⟩
def f268 : LFunc := ⟨95, [68, 9, 31, 22, 8, 16, 7, 2, 1, 0, 6], [.tmp 6],
 .seq (r [K 6 (.mov (.const (.slice none 0 0)))])
 (.seq (r [M 10 0, M 11 1, L 12 (.sliceSl 2 (t 10) (some (t 11)) none none)])
 (.seq (r [M 13 2, L 14 (.len false (t 13)), J 7 14])
 (.seq (.seq (r [M 15 7, K 16 (.bin .eql .none (t 15) (i 0))])
 (.cond (t 16) (.seq (r [M 17 0, J 6 17])
 (.ret)) (.skip)))
 (.seq (r [M 18 0, L 19 (.len false (t 18)), J 8 19])
 (.seq (.seq (r [M 20 1, M 21 8, K 22 (.bin .eql .none (t 20) (t 21))])
 (.cond (t 22) (.seq (r [M 23 0, M 24 2, L 25 (.append 2 24 (t 23) (t 24)), J 6 25])
 (.ret)) (.skip)))
 (.seq (.seq (r [M 26 8, M 27 7, L 28 (.bin .add .none (t 26) (t 27)), M 29 0, L 30 (.cap (t 29)), K 31 (.bin .gtr .none (t 28) (t 30))])
 (.cond (t 31) (.seq (r [M 32 0, M 33 1, L 34 (.sliceSl 2 (t 32) none (some (t 33)) none), M 35 8, M 36 7, L 37 (.bin .add .none (t 35) (t 36)), M 38 1, L 39 (.bin .sub .none (t 37) (t 38)), ⟨(some 40), true, .appendZ 2 24 [.string ⟨#[]⟩, .int .i64 0] (t 34) (t 39), none⟩, J 9 40])
 (.seq (r [M 41 9, M 42 1, L 43 (.sliceSl 2 (t 41) (some (t 42)) none none), M 44 2, L 45 (.copy 2 (t 43) (t 44))])
 (.seq (r [M 46 9, M 47 1, M 48 7, L 49 (.bin .add .none (t 47) (t 48)), L 50 (.sliceSl 2 (t 46) (some (t 49)) none none), M 51 0, M 52 1, L 53 (.sliceSl 2 (t 51) (some (t 52)) none none), L 54 (.copy 2 (t 50) (t 53))])
 (.seq (r [M 55 9, J 6 55])
 (.ret))))) (.skip)))
 (.seq (r [M 56 0, M 57 8, M 58 7, L 59 (.bin .add .none (t 57) (t 58)), L 60 (.sliceSl 2 (t 56) none (some (t 59)) none), J 0 60])
 (.seq (.seq (r [M 61 2, M 62 0, M 63 1, M 64 7, L 65 (.bin .add .none (t 63) (t 64)), L 66 (.sliceSl 2 (t 62) (some (t 65)) none none), L 67 (.call (.func 314) [(t 61), (t 66)]), K 68 (.un .not (t 67))])
 (.cond (t 68) (.seq (r [M 69 0, M 70 1, M 71 7, L 72 (.bin .add .none (t 70) (t 71)), L 73 (.sliceSl 2 (t 69) (some (t 72)) none none), M 74 0, M 75 1, L 76 (.sliceSl 2 (t 74) (some (t 75)) none none), L 77 (.copy 2 (t 73) (t 76))])
 (.seq (r [M 78 0, M 79 1, L 80 (.sliceSl 2 (t 78) (some (t 79)) none none), M 81 2, L 82 (.copy 2 (t 80) (t 81))])
 (.seq (r [M 83 0, J 6 83])
 (.ret)))) (.skip)))
 (.seq (r [M 84 0, M 85 8, L 86 (.sliceSl 2 (t 84) (some (t 85)) none none), M 87 2, L 88 (.copy 2 (t 86) (t 87))])
 (.seq (r [M 89 0, M 90 1, L 91 (.sliceSl 2 (t 89) (some (t 90)) none none), M 92 7, L 93 (.call (.func 315) [(t 91), (t 92)])])
 (.seq (r [M 94 0, J 6 94])
 (.ret))))))))))))⟩
def f269 : LFunc := ⟨33, [7, 16, 2, 1, 0, 6], [.tmp 6],
 .seq (r [K 6 (.mov (.const (.slice none 0 0)))])
 (.seq (r [M 8 0, M 9 1, M 10 2, M 11 0, L 12 (.len false (t 11)), L 13 (.sliceSl 2 (t 8) (some (t 9)) (some (t 10)) (some (t 12)))])
 (.seq (.seq (r [M 14 1, M 15 2, K 16 (.bin .eql .none (t 14) (t 15))])
 (.cond (t 16) (.seq (r [M 17 0, J 6 17])
 (.ret)) (.skip)))
 (.seq (r [M 18 0, L 19 (.len false (t 18)), J 7 19])
 (.seq (r [M 20 0, M 21 1, L 22 (.sliceSl 2 (t 20) none (some (t 21)) none), M 23 0, M 24 2, L 25 (.sliceSl 2 (t 23) (some (t 24)) none none), L 26 (.append 2 24 (t 22) (t 25)), J 0 26])
 (.seq (r [M 27 0, M 28 0, L 29 (.len false (t 28)), M 30 7, L 31 (.sliceSl 2 (t 27) (some (t 29)) (some (t 30)) none), ⟨none, false, .clear 2 [.string ⟨#[]⟩, .int .i64 0] (t 31), none⟩])
 (.seq (r [M 32 0, J 6 32])
 (.ret)))))))⟩
def f270 : LFunc := ⟨29, [0, 22, 9, 8, 7, 2, 10, 13, 11, 12, 1, 6], [.cell 6 (some 5)],
 .seq (r [⟨(some 6), false, .alloc 5 [.int .i64 0, .int .i64 0, .string ⟨#[]⟩, .int .i64 0, .string ⟨#[]⟩], none⟩])
 (.seq (.seq (r [J 10 1, K 11 (.len false (t 10)), K 12 (.mov (i 0))])
 (.block 0 (.loop [] (.seq (r [K 13 (.bin .lss .none (t 12) (t 11))])
 (.seq (.cond (t 13) (.skip) (.exit 0))
 (.seq (.block 1 (.seq (r [M 14 12, L 15 (.indexSl 5 (t 10) (t 12)), L 16 (.load (some 5) (t 15)), ⟨(some 8), false, .alloc 5 [.slice none 0 0, .int .i64 0, .int .i64 0, .int .i64 0, .string ⟨#[]⟩], none⟩, J 7 14, N (.store 5 (t 8) (t 16) false)])
 (.seq (r [M 17 2, M 18 7, L 19 (.load (some 5) (t 8)), L 20 (.call (t 17) [(t 18), (t 19)]), J 9 20])
 (.seq (r [M 21 9, K 22 (.bin .neq .none (t 21) (i 0))])
 (.cond (t 22) (.seq (r [M 23 9, M 24 7, M 25 0, ⟨(some 26), true, .build [.int .i64 0, .int .i64 0, .string ⟨#[]⟩, .int .i64 0, .string ⟨#[]⟩] [(0, 1, (t 23)), (1, 1, (t 24)), (2, 1, (t 25))], none⟩, N (.store 5 (t 6) (t 26) false)])
 (.ret)) (.skip))))))
 (r [L 27 (.bin .add .none (t 12) (i 1)), J 12 27])))))))
 (.seq (r [⟨(some 28), true, .build [.int .i64 0, .int .i64 0, .string ⟨#[]⟩, .int .i64 0, .string ⟨#[]⟩] [], none⟩, N (.store 5 (t 6) (t 28) false)])
 (.ret)))⟩
def f273 : LFunc := ⟨29, [0, 22, 9, 8, 7, 2, 10, 13, 11, 12, 1, 6], [.cell 6 (some 5)],
 .seq (r [⟨(some 6), false, .alloc 5 [.int .i64 0, .int .i64 0, .string ⟨#[]⟩, .int .i64 0, .string ⟨#[]⟩], none⟩])
 (.seq (.seq (r [J 10 1, K 11 (.len false (t 10)), K 12 (.mov (i 0))])
 (.block 0 (.loop [] (.seq (r [K 13 (.bin .lss .none (t 12) (t 11))])
 (.seq (.cond (t 13) (.skip) (.exit 0))
 (.seq (.block 1 (.seq (r [M 14 12, L 15 (.indexSl 5 (t 10) (t 12)), L 16 (.load (some 5) (t 15)), ⟨(some 8), false, .alloc 5 [.int .i64 0, .int .i64 0, .int .i64 0, .int .i64 0, .string ⟨#[]⟩], none⟩, J 7 14, N (.store 5 (t 8) (t 16) false)])
 (.seq (r [M 17 2, M 18 7, L 19 (.load (some 5) (t 8)), L 20 (.call (t 17) [(t 18), (t 19)]), J 9 20])
 (.seq (r [M 21 9, K 22 (.bin .neq .none (t 21) (i 0))])
 (.cond (t 22) (.seq (r [M 23 9, M 24 7, M 25 0, ⟨(some 26), true, .build [.int .i64 0, .int .i64 0, .string ⟨#[]⟩, .int .i64 0, .string ⟨#[]⟩] [(0, 1, (t 23)), (1, 1, (t 24)), (2, 1, (t 25))], none⟩, N (.store 5 (t 6) (t 26) false)])
 (.ret)) (.skip))))))
 (r [L 27 (.bin .add .none (t 12) (i 1)), J 12 27])))))))
 (.seq (r [⟨(some 28), true, .build [.int .i64 0, .int .i64 0, .string ⟨#[]⟩, .int .i64 0, .string ⟨#[]⟩] [], none⟩, N (.store 5 (t 6) (t 28) false)])
 (.ret)))⟩
def f275 : LFunc := ⟨29, [0, 22, 9, 8, 7, 2, 10, 13, 11, 12, 1, 6], [.cell 6 (some 5)],
 .seq (r [⟨(some 6), false, .alloc 5 [.int .i64 0, .int .i64 0, .string ⟨#[]⟩, .int .i64 0, .string ⟨#[]⟩], none⟩])
 (.seq (.seq (r [J 10 1, K 11 (.len false (t 10)), K 12 (.mov (i 0))])
 (.block 0 (.loop [] (.seq (r [K 13 (.bin .lss .none (t 12) (t 11))])
 (.seq (.cond (t 13) (.skip) (.exit 0))
 (.seq (.block 1 (.seq (r [M 14 12, L 15 (.indexSl 2 (t 10) (t 12)), L 16 (.load (some 2) (t 15)), K 8 (.alloc 2 [.int .i64 0, .bool false]), J 7 14, N (.store 2 (t 8) (t 16) false)])
 (.seq (r [M 17 2, M 18 7, L 19 (.load (some 2) (t 8)), L 20 (.call (t 17) [(t 18), (t 19)]), J 9 20])
 (.seq (r [M 21 9, K 22 (.bin .neq .none (t 21) (i 0))])
 (.cond (t 22) (.seq (r [M 23 9, M 24 7, M 25 0, ⟨(some 26), true, .build [.int .i64 0, .int .i64 0, .string ⟨#[]⟩, .int .i64 0, .string ⟨#[]⟩] [(0, 1, (t 23)), (1, 1, (t 24)), (2, 1, (t 25))], none⟩, N (.store 5 (t 6) (t 26) false)])
 (.ret)) (.skip))))))
 (r [L 27 (.bin .add .none (t 12) (i 1)), J 12 27])))))))
 (.seq (r [⟨(some 28), true, .build [.int .i64 0, .int .i64 0, .string ⟨#[]⟩, .int .i64 0, .string ⟨#[]⟩] [], none⟩, N (.store 5 (t 6) (t 28) false)])
 (.ret)))⟩
def f277 : LFunc := ⟨28, [7, 20, 5, 9, 1, 11, 14, 12, 13, 0, 2, 6], [.cell 6 (some 1)],
 .seq (r [K 5 (.box 3 (t 2) false), K 6 (.alloc 1 [.slice none 0 0])])
 (.seq (r [K 7 (.alloc 1 [.slice none 0 0])])
 (.seq (.seq (r [M 10 0, K 11 (.call (.func 316) [(t 10)]), K 12 (.len false (t 11)), K 13 (.mov (i 0))])
 (.block 0 (.loop [] (.seq (r [K 14 (.bin .lss .none (t 13) (t 12))])
 (.seq (.cond (t 14) (.skip) (.exit 0))
 (.seq (.block 1 (.seq (r [L 15 (.indexSl 3 (t 11) (t 13)), L 16 (.load (some 3) (t 15)), ⟨(some 9), false, .alloc 3 [.int .i64 0, .int .i64 0, .string ⟨#[]⟩], none⟩, N (.store 3 (t 9) (t 16) false)])
 (.seq (r [M 17 1, L 18 (.load (some 3) (t 9)), L 19 (.load (some 3) (t 5)), K 20 (.call (.func 292) [(t 17), (t 18), (t 19)])])
 (.cond (t 20) (.region [L 21 (.load (some 1) (t 7)), M 22 0, L 23 (.load (some 3) (t 9)), L 24 (.call (.func 317) [(t 22), (t 23)]), L 25 (.call (.func 118) [(t 21), (t 24)]), N (.store 1 (t 7) (t 25) false)] [(0, 3)]) (.skip)))))
 (r [L 26 (.bin .add .none (t 13) (i 1)), J 13 26])))))))
 (.seq (r [L 27 (.load (some 1) (t 7)), N (.store 1 (t 6) (t 27) false)])
 (.ret))))⟩
def f278 : LFunc := ⟨41, [7, 34, 9, 10, 5, 8, 16, 15, 4, 3, 2, 1, 0, 6], [.cell 6 (some 1)],
 .seq (r [K 3 (.box 1 (t 0) false), K 4 (.box 1 (t 1) false), K 5 (.box 5 (t 2) false), K 6 (.alloc 1 [.slice none 0 0])])
 (.seq (r [K 7 (.alloc 1 [.slice none 0 0])])
 (.seq (.seq (r [L 11 (.load none (t 3)), L 12 (.load none (t 4)), L 13 (.call (.func 12) [(t 11), (t 12)]), L 14 (.call (.func 13) [(t 13)]), K 15 (.call (.func 14) [(t 14)])])
 (.block 0 (.rangeFunc (t 15) [16] (r [J 8 16]) (.block 1 (.seq (r [L 18 (.load none (t 3)), L 19 (.load none (t 4)), M 20 8, L 21 (.fieldAddr 0 (t 5)), L 22 (.load none (t 21)), L 23 (.call (.func 19) [(t 18), (t 19), (t 20), (t 22)]), M 17 23, L 24 (.extract (t 17) 0), L 25 (.extract (t 17) 1), ⟨(some 9), false, .alloc 3 [.int .i64 0, .int .i64 0, .string ⟨#[]⟩], none⟩, N (.store 3 (t 9) (t 24) false), J 10 25])
 (.seq (r [M 26 10, M 27 26, G 28 27 true (.fieldAddr 1 (t 5)), G 29 27 true (.load none (t 28)), G 30 27 true (.load (some 3) (t 9)), G 31 27 true (.fieldAddr 2 (t 5)), G 32 27 true (.load (some 3) (t 31)), G 33 27 true (.call (.func 292) [(t 29), (t 30), (t 32)]), K 34 (.pick (t 27) (t 33) (.const (.bool false)))])
 (.cond (t 34) (r [L 35 (.load none (t 7)), M 36 8, L 37 (.buildSlice 1 1 [.int .i64 0] [(0, 1, (t 36))] false), L 38 (.append 1 8 (t 35) (t 37)), N (.store 1 (t 7) (t 38) false)]) (.skip))))))))
 (.seq (r [L 39 (.load none (t 7)), L 40 (.call (.func 119) [(t 39)]), N (.store 1 (t 6) (t 40) false)])
 (.ret))))⟩
def f279 : LFunc := ⟨6, [0, 2], [.tmp 2],
 .seq (r [K 2 (.mov (.const (.pointer none)))])
 (.seq (r [M 3 0, L 4 (.build [.nilFunc, .slice none 0 0] [(0, 1, (t 3))]), L 5 (.box 2 (t 4) false), J 2 5])
 (.ret))⟩
def f280 : LFunc := ⟨29, [22, 0, 6, 12, 10, 11, 5, 1, 4], [.tmp 4],
 .seq (r [K 4 (.mov (.const (.slice none 0 0)))])
 (.seq (r [M 7 1, L 8 (.call (.func 30) [(t 7)]), J 5 8])
 (.seq (.seq (r [M 9 5, K 10 (.len false (t 9)), K 11 (.mov (i 0))])
 (.block 0 (.loop [] (.seq (r [K 12 (.bin .lss .none (t 11) (t 10))])
 (.seq (.cond (t 12) (.skip) (.exit 0))
 (.seq (.block 1 (.seq (r [M 13 11, J 6 13])
 (.seq (r [M 14 6, L 15 (.bin .gtr .none (t 14) (i 62)), M 16 15, G 17 16 false (.mov (t 0)), G 18 16 false (.mov (t 6)), G 19 16 false (.bin .shr .none (t 17) (t 18)), G 20 16 false (.bin .and .none (t 19) (i 1)), G 21 16 false (.bin .eql .none (t 20) (i 0)), K 22 (.pick (t 16) (.const (.bool true)) (t 21))])
 (.cond (t 22) (r [M 23 5, M 24 6, ⟨(some 25), true, .build [.int .i64 0, .int .i64 0, .string ⟨#[]⟩] [], none⟩, L 26 (.indexSl 3 (t 23) (t 24)), N (.store 3 (t 26) (t 25) false)]) (.skip)))))
 (r [L 27 (.bin .add .none (t 11) (i 1)), J 11 27])))))))
 (.seq (r [M 28 5, J 4 28])
 (.ret))))⟩
def f281 : LFunc := ⟨26, [6, 8, 16, 7, 1, 0, 4, 5], [.tmp 4, .tmp 5],
 .seq (r [K 4 (.mov (.const (.slice none 0 0))), K 5 (.mov (.const (.bool false)))])
 (.seq (r [M 10 0, M 11 1, L 12 (.call (.func 318) [(t 10), (t 11)]), M 9 12, L 13 (.extract (t 9) 0), L 14 (.extract (t 9) 1), J 6 13, J 7 14])
 (.seq (.seq (r [M 15 7, K 16 (.un .not (t 15))])
 (.cond (t 16) (.seq (r [K 8 (.mov (.const (.slice none 0 0)))])
 (.seq (r [M 17 8, J 4 17, K 5 (.mov (.const (.bool false)))])
 (.ret))) (.skip)))
 (.seq (r [M 18 0, L 19 (.nilCheck (t 18)), L 20 (.fieldAddr 1 (t 19)), L 21 (.load none (t 20)), M 22 6, L 23 (.indexSl 2 (t 21) (t 22)), L 24 (.fieldAddr 1 (t 23)), L 25 (.load none (t 24)), J 4 25, K 5 (.mov (.const (.bool true)))])
 (.ret))))⟩
def f282 : LFunc := ⟨8, [1, 0, 2], [.tmp 2],
 .seq (r [K 1 (.box 9 (t 0) false), K 2 (.mov (.const (.slice none 0 0)))])
 (.seq (r [L 3 (.fieldAddr 4 (t 1)), L 4 (.load none (t 3)), L 5 (.call (.func 321) [(t 4)]), L 6 (.call (.func 320) [(t 5), (.func 322)]), L 7 (.call (.func 319) [(t 6)]), J 2 7])
 (.ret))⟩
def f283 : LFunc := ⟨48, [25, 2, 7, 15, 8, 1, 0, 6], [.tmp 6],
 .seq (r [K 6 (.mov (.const (.bool false)))])
 (.seq (r [M 10 0, M 11 1, L 12 (.call (.func 318) [(t 10), (t 11)]), M 9 12, L 13 (.extract (t 9) 0), L 14 (.extract (t 9) 1), J 7 13, J 8 14])
 (.seq (.block 0 (.seq (r [M 16 8, J 15 16])
 (.cond (t 15) (.seq (r [M 17 0, L 18 (.nilCheck (t 17)), L 19 (.fieldAddr 1 (t 18)), L 20 (.load none (t 19)), M 21 7, M 22 2, L 23 (.indexSl 2 (t 20) (t 21)), L 24 (.fieldAddr 1 (t 23)), N (.store 1 (t 24) (t 22) false)])
 (.seq (r [K 6 (.mov (.const (.bool false)))])
 (.ret))) (.seq (r [M 26 0, L 27 (.bin .eql .ptr (t 26) (.const (.pointer none))), M 28 27, G 29 28 false (.mov (t 0)), G 30 28 false (.nilCheck (t 29)), G 31 28 false (.fieldAddr 0 (t 30)), G 32 28 false (.load none (t 31)), G 33 28 false (.bin .eql .func (t 32) (.const (.nilFunc))), L 34 (.pick (t 28) (.const (.bool true)) (t 33)), J 25 34])
 (.cond (t 25) (.seq (r [K 6 (.mov (.const (.bool false)))])
 (.ret)) (.skip))))))
 (.seq (r [M 35 0, M 36 0, L 37 (.nilCheck (t 36)), L 38 (.fieldAddr 1 (t 37)), L 39 (.load none (t 38)), M 40 7, M 41 1, M 42 2, L 43 (.build [.slice none 0 0, .slice none 0 0] [(0, 1, (t 41)), (1, 1, (t 42))]), L 44 (.buildSlice 2 1 [.slice none 0 0, .slice none 0 0] [(0, 2, (t 43))] false), L 45 (.call (.func 323) [(t 39), (t 40), (t 44)]), L 46 (.nilCheck (t 35)), L 47 (.fieldAddr 1 (t 46)), N (.store 1 (t 47) (t 45) false)])
 (.seq (r [K 6 (.mov (.const (.bool true)))])
 (.ret)))))⟩
def f284 : LFunc := ⟨10, [4, 0, 2], [.tmp 2],
 .seq (r [K 2 (.mov (i 0))])
 (.seq (.seq (r [M 3 0, K 4 (.bin .eql .ptr (t 3) (.const (.pointer none)))])
 (.cond (t 4) (.seq (r [K 2 (.mov (i 0))])
 (.ret)) (.skip)))
 (.seq (r [M 5 0, L 6 (.nilCheck (t 5)), L 7 (.fieldAddr 1 (t 6)), L 8 (.load none (t 7)), L 9 (.len false (t 8)), J 2 9])
 (.ret)))⟩
def f285 : LFunc := ⟨29, [28, 0, 7, 1, 3], [],
 .seq (r [K 3 (.mov (i 0))])
 (.block 0 (.loop [] (.seq (.seq (r [M 4 3, L 5 (.load none (t 1)), L 6 (.call (.func 284) [(t 5)]), K 7 (.bin .lss .none (t 4) (t 6))])
 (.cond (t 7) (.skip) (.exit 0)))
 (.seq (.block 1 (.seq (r [M 10 0, L 11 (.load none (t 1)), L 12 (.nilCheck (t 11)), L 13 (.fieldAddr 1 (t 12)), L 14 (.load none (t 13)), M 15 3, L 16 (.indexSl 2 (t 14) (t 15)), L 17 (.fieldAddr 0 (t 16)), L 18 (.load none (t 17)), L 19 (.load none (t 1)), L 20 (.nilCheck (t 19)), L 21 (.fieldAddr 1 (t 20)), L 22 (.load none (t 21)), M 23 3, L 24 (.indexSl 2 (t 22) (t 23)), L 25 (.fieldAddr 1 (t 24)), L 26 (.load none (t 25)), L 27 (.call (t 10) [(t 18), (t 26)]), K 28 (.un .not (t 27))])
 (.cond (t 28) (.ret) (.skip))))
 (r [M 8 3, L 9 (.bin .add .none (t 8) (i 1)), J 3 9])))))⟩
def f286 : LFunc := ⟨8, [3, 0, 2], [.tmp 2],
 .seq (r [K 2 (.mov (.const (.slice none 0 0)))])
 (.seq (r [K 3 (.alloc 1 [.slice none 0 0])])
 (.seq (r [M 4 0, L 5 (.makeFunc (.func 325) [] [(t 3)]), L 6 (.call (.func 324) [(t 4), (t 5)])])
 (.seq (r [L 7 (.load none (t 3)), J 2 7])
 (.ret))))⟩
def f287 : LFunc := ⟨6, [3, 2, 1, 0, 4], [.tmp 4],
 .seq (r [K 2 (.box 1 (t 0) false), K 3 (.box 1 (t 1) false), K 4 (.mov (.const (.nilFunc)))])
 (.seq (r [L 5 (.makeFunc (.func 326) [] [(t 2), (t 3)]), J 4 5])
 (.ret))⟩
def f288 : LFunc := ⟨5, [0, 2], [.tmp 2],
 .seq (r [K 2 (.mov (.const (.nilFunc)))])
 (.seq (r [M 3 0, L 4 (.call (.func 328) [(t 3)]), J 2 4])
 (.ret))⟩
def f289 : LFunc := ⟨9, [2, 1, 0, 3], [.tmp 3],
 .seq (r [K 2 (.box 2 (t 0) false), K 3 (.mov (.const (.bool false)))])
 (.seq (r [L 4 (.fieldAddr 5 (t 1)), L 5 (.load none (t 4)), L 6 (.makeFunc (.func 291) [] [(t 2), (t 1)]), L 7 (.call (.func 290) [(t 5), (t 6)]), L 8 (.un .not (t 7)), J 3 8])
 (.ret))⟩
def f290 : LFunc := ⟨9, [1, 0, 4], [.tmp 4],
 .seq (r [K 4 (.mov (.const (.bool false)))])
 (.seq (r [M 5 0, M 6 1, L 7 (.call (.func 329) [(t 5), (t 6)]), L 8 (.bin .geq .none (t 7) (i 0)), J 4 8])
 (.ret))⟩
def f292 : LFunc := ⟨57, [53, 49, 45, 41, 37, 7, 33, 32, 28, 5, 14, 4, 9, 8, 0, 2, 1, 6], [.tmp 6],
 .seq (r [K 4 (.box 3 (t 1) false), K 5 (.box 3 (t 2) false), K 6 (.mov (.const (.bool false)))])
 (.seq (.seq (r [J 8 0])
 (.block 0 (.seq (r [L 10 (.bin .eql .none (t 8) (i 7)), J 9 10])
 (.cond (t 9) (.seq (r [L 11 (.fieldAddr 0 (t 4)), L 12 (.load none (t 11)), L 13 (.bin .eql .none (t 12) (i 0)), J 6 13])
 (.ret)) (.seq (r [L 15 (.bin .eql .none (t 8) (i 8)), J 14 15])
 (.cond (t 14) (.seq (r [L 16 (.fieldAddr 0 (t 4)), L 17 (.load none (t 16)), L 18 (.bin .neq .none (t 17) (i 0)), J 6 18])
 (.ret)) (.skip)))))))
 (.seq (.seq (r [L 19 (.fieldAddr 0 (t 4)), L 20 (.load none (t 19)), L 21 (.bin .eql .none (t 20) (i 0)), M 22 21, G 23 22 false (.fieldAddr 0 (t 4)), G 24 22 false (.load none (t 23)), G 25 22 false (.fieldAddr 0 (t 5)), G 26 22 false (.load none (t 25)), G 27 22 false (.bin .neq .none (t 24) (t 26)), K 28 (.pick (t 22) (.const (.bool true)) (t 27))])
 (.cond (t 28) (.seq (r [K 6 (.mov (.const (.bool false)))])
 (.ret)) (.skip)))
 (.seq (r [L 29 (.load (some 3) (t 4)), L 30 (.load (some 3) (t 5)), L 31 (.call (.func 35) [(t 29), (t 30)]), J 7 31])
 (.seq (.seq (r [J 32 0])
 (.block 1 (.seq (r [L 34 (.bin .eql .none (t 32) (i 1)), J 33 34])
 (.cond (t 33) (.seq (r [M 35 7, L 36 (.bin .eql .none (t 35) (i 0)), J 6 36])
 (.ret)) (.seq (r [L 38 (.bin .eql .none (t 32) (i 2)), J 37 38])
 (.cond (t 37) (.seq (r [M 39 7, L 40 (.bin .neq .none (t 39) (i 0)), J 6 40])
 (.ret)) (.seq (r [L 42 (.bin .eql .none (t 32) (i 3)), J 41 42])
 (.cond (t 41) (.seq (r [M 43 7, L 44 (.bin .lss .none (t 43) (i 0)), J 6 44])
 (.ret)) (.seq (r [L 46 (.bin .eql .none (t 32) (i 4)), J 45 46])
 (.cond (t 45) (.seq (r [M 47 7, L 48 (.bin .leq .none (t 47) (i 0)), J 6 48])
 (.ret)) (.seq (r [L 50 (.bin .eql .none (t 32) (i 5)), J 49 50])
 (.cond (t 49) (.seq (r [M 51 7, L 52 (.bin .gtr .none (t 51) (i 0)), J 6 52])
 (.ret)) (.seq (r [L 54 (.bin .eql .none (t 32) (i 6)), J 53 54])
 (.cond (t 53) (.seq (r [M 55 7, L 56 (.bin .geq .none (t 55) (i 0)), J 6 56])
 (.ret)) (.skip)))))))))))))))
 (.seq (r [K 6 (.mov (.const (.bool false)))])
 (.ret))))))⟩
def f294 : LFunc := ⟨9, [1, 0], [],
 r [M 4 0, M 5 0, L 6 (.len false (t 5)), M 7 1, L 8 (.call (.func 330) [(t 4), (t 6), (t 7)])]⟩
def f295 : LFunc := ⟨10, [4, 3, 2, 1, 0, 5], [.tmp 5],
 .seq (r [K 3 (.box 2 (t 0) false), K 4 (.box 2 (t 1) false), K 5 (.mov (i 0))])
 (.seq (r [L 6 (.load (some 9) (t 2)), L 7 (.load (some 2) (t 3)), L 8 (.load (some 2) (t 4)), L 9 (.call (.func 296) [(t 6), (t 7), (t 8)]), J 5 9])
 (.ret))⟩
def f296 : LFunc := ⟨46, [31, 9, 27, 5, 8, 4, 11, 14, 12, 13, 3, 2, 1, 0, 6], [.tmp 6],
 .seq (r [K 3 (.box 9 (t 0) false), K 4 (.box 2 (t 1) false), K 5 (.box 2 (t 2) false), K 6 (.mov (i 0))])
 (.seq (.seq (r [L 10 (.fieldAddr 6 (t 3)), K 11 (.load none (t 10)), K 12 (.len false (t 11)), K 13 (.mov (i 0))])
 (.block 0 (.loop [] (.seq (r [K 14 (.bin .lss .none (t 13) (t 12))])
 (.seq (.cond (t 14) (.skip) (.exit 0))
 (.seq (.block 1 (.seq (r [L 15 (.indexSl 2 (t 11) (t 13)), L 16 (.load (some 2) (t 15)), K 8 (.alloc 2 [.int .i64 0, .bool false]), N (.store 2 (t 8) (t 16) false)])
 (.seq (.region [L 17 (.load (some 2) (t 4)), L 18 (.fieldAddr 0 (t 8)), L 19 (.load none (t 18)), L 20 (.call (.func 293) [(t 17), (t 19)]), L 21 (.load (some 2) (t 5)), L 22 (.fieldAddr 0 (t 8)), L 23 (.load none (t 22)), L 24 (.call (.func 293) [(t 21), (t 23)]), L 25 (.call (.func 35) [(t 20), (t 24)]), J 9 25] [(4, 3), (6, 3)])
 (.seq (.seq (r [L 26 (.fieldAddr 1 (t 8)), K 27 (.load none (t 26))])
 (.cond (t 27) (r [M 28 9, L 29 (.un .neg (t 28)), J 9 29]) (.skip)))
 (.seq (r [M 30 9, K 31 (.bin .neq .none (t 30) (i 0))])
 (.cond (t 31) (.seq (r [M 32 9, J 6 32])
 (.ret)) (.skip)))))))
 (r [L 33 (.bin .add .none (t 13) (i 1)), J 13 33])))))))
 (.seq (.region [L 34 (.fieldAddr 0 (t 5)), L 35 (.load none (t 34)), L 36 (.fieldAddr 0 (t 4)), L 37 (.load none (t 36)), L 38 (.call (.func 77) [(t 35), (t 37)]), L 39 (.fieldAddr 1 (t 4)), L 40 (.load none (t 39)), L 41 (.fieldAddr 1 (t 5)), L 42 (.load none (t 41)), L 43 (.call (.func 11) [(t 40), (t 42)]), L 44 (.buildSlice 1 2 [.int .i64 0] [(0, 1, (t 38)), (1, 1, (t 43))] false), L 45 (.call (.func 76) [(t 44)]), J 6 45] [(6, 4), (8, 4)])
 (.ret)))⟩
def f298 : LFunc := ⟨94, [15, 14, 11, 8, 5, 4, 3, 1, 0], [.tmp 0],
 .seq (r [K 0 (.mov (.const (.bool false)))])
 (.seq (r [L 17 (.call (.func 60) []), L 18 (.call (.func 230) [(t 17)]), M 16 18, L 19 (.extract (t 16) 0), L 20 (.extract (t 16) 1), J 1 19, M 2 20])
 (.seq (r [M 22 1, ⟨(some 23), true, .buildSlice 1 3 [.string ⟨#[]⟩] [(0, 1, (.const (.string ⟨#[115, 104, 111, 112]⟩))), (1, 1, (.const (.string ⟨#[108, 97, 110, 100]⟩))), (2, 1, (.const (.string ⟨#[110, 97, 109, 101]⟩)))] false, none⟩, ⟨(some 24), true, .call (.func 44) [(t 22), (.const (.string ⟨#[115, 97, 108, 101]⟩)), (t 23)], none⟩, M 21 24, L 25 (.extract (t 21) 0), L 26 (.extract (t 21) 1), L 27 (.extract (t 21) 2), ⟨(some 3), false, .alloc 4 [.string ⟨#[]⟩, .int .i64 0, .bool false, .string ⟨#[]⟩], none⟩, N (.store 4 (t 3) (t 25) false), J 4 26, J 5 27])
 (.seq (r [M 29 1, ⟨(some 30), true, .buildSlice 1 2 [.string ⟨#[]⟩] [(0, 1, (.const (.string ⟨#[110]⟩))), (1, 1, (.const (.string ⟨#[120]⟩)))] false, none⟩, ⟨(some 31), true, .call (.func 44) [(t 29), (.const (.string ⟨#[115, 97, 108, 101]⟩)), (t 30)], none⟩, M 28 31, L 32 (.extract (t 28) 0), L 33 (.extract (t 28) 1), L 34 (.extract (t 28) 2), ⟨(some 6), true, .alloc 4 [.string ⟨#[]⟩, .int .i64 0, .bool false, .string ⟨#[]⟩], none⟩, N (.store 4 (t 6) (t 32) false), M 7 33, J 8 34])
 (.seq (r [M 36 1, ⟨(some 37), true, .buildSlice 1 1 [.string ⟨#[]⟩] [(0, 1, (.const (.string ⟨#[120]⟩)))] false, none⟩, ⟨(some 38), true, .call (.func 44) [(t 36), (.const (.string ⟨#[115, 97, 108, 101]⟩)), (t 37)], none⟩, M 35 38, L 39 (.extract (t 35) 0), L 40 (.extract (t 35) 1), L 41 (.extract (t 35) 2), ⟨(some 9), true, .alloc 4 [.string ⟨#[]⟩, .int .i64 0, .bool false, .string ⟨#[]⟩], none⟩, N (.store 4 (t 9) (t 39) false), M 10 40, J 11 41])
 (.seq (r [M 43 1, ⟨(some 44), true, .call (.func 44) [(t 43), (.const (.string ⟨#[115, 97, 108, 101]⟩)), (.const (.slice none 0 0))], none⟩, M 42 44, L 45 (.extract (t 42) 0), L 46 (.extract (t 42) 1), L 47 (.extract (t 42) 2), ⟨(some 12), true, .alloc 4 [.string ⟨#[]⟩, .int .i64 0, .bool false, .string ⟨#[]⟩], none⟩, N (.store 4 (t 12) (t 45) false), M 13 46, J 14 47])
 (.seq (r [M 48 1, ⟨(some 49), true, .call (.func 333) [(t 48), (.const (.string ⟨#[115, 104, 111, 112]⟩))], none⟩, J 15 49])
 (.seq (r [L 50 (.call (.func 334) []), M 51 50, G 52 51 true (.fieldAddr 0 (t 3)), G 53 51 true (.load none (t 52)), ⟨(some 54), true, .bin .eql .none (t 53) (.const (.string ⟨#[110, 97, 109, 101]⟩)), (some (51, true))⟩, L 55 (.pick (t 51) (t 54) (.const (.bool false))), M 56 55, G 57 56 true (.mov (t 4)), ⟨(some 58), true, .bin .eql .none (t 57) (.const (.string ⟨#[108, 97, 110, 100]⟩)), (some (56, true))⟩, L 59 (.pick (t 56) (t 58) (.const (.bool false))), M 60 59, G 61 60 true (.mov (t 5)), G 62 60 true (.bin .eql .none (t 61) (i 0)), L 63 (.pick (t 60) (t 62) (.const (.bool false))), M 64 63, G 65 64 true (.mov (t 8)), G 66 64 true (.bin .eql .none (t 65) (i 9)), L 67 (.pick (t 64) (t 66) (.const (.bool false))), M 68 67, G 69 68 true (.mov (t 11)), G 70 68 true (.bin .eql .none (t 69) (i 3)), L 71 (.pick (t 68) (t 70) (.const (.bool false))), M 72 71, G 73 72 true (.mov (t 14)), G 74 72 true (.bin .eql .none (t 73) (i 5)), L 75 (.pick (t 72) (t 74) (.const (.bool false))), M 76 75, G 77 76 true (.mov (t 15)), G 78 76 true (.len false (t 77)), G 79 76 true (.bin .eql .none (t 78) (i 6)), L 80 (.pick (t 76) (t 79) (.const (.bool false))), M 81 80, G 82 81 true (.mov (t 15)), G 83 81 true (.indexSl 1 (t 82) (i 3)), G 84 81 true (.load none (t 83)), G 85 81 true (.call (.func 335) [(t 84)]), ⟨(some 86), true, .bin .eql .none (t 85) (.const (.string ⟨#[108, 97, 110, 100, 46, 105, 100]⟩)), (some (81, true))⟩, L 87 (.pick (t 81) (t 86) (.const (.bool false))), M 88 87, ⟨(some 89), true, .buildSlice 1 1 [.string ⟨#[]⟩] [(0, 1, (.const (.string ⟨#[97]⟩)))] false, (some (88, true))⟩, ⟨(some 90), true, .buildSlice 1 2 [.string ⟨#[]⟩] [(0, 1, (.const (.string ⟨#[97]⟩))), (1, 1, (.const (.string ⟨#[98]⟩)))] false, (some (88, true))⟩, G 91 88 true (.call (.func 165) [(t 89), (t 90)]), G 92 88 true (.bin .eql .none (t 91) (i (-1))), L 93 (.pick (t 88) (t 92) (.const (.bool false))), J 0 93])
 (.ret))))))))⟩
def f299 : LFunc := ⟨101, [7, 6, 48, 3, 4, 2, 18, 1, 0], [.tmp 0],
 .seq (r [K 0 (.mov (.const (.bool false)))])
 (.seq (r [L 9 (.call (.func 25) []), M 8 9, L 10 (.extract (t 8) 0), L 11 (.extract (t 8) 1), J 1 10, J 2 11])
 (.seq (.seq (r [M 12 1, L 13 (.bin .eql .ptr (t 12) (.const (.pointer none))), M 14 13, G 15 14 false (.mov (t 1)), ⟨(some 16), true, .call (.func 12) [(t 15), (.const (.string ⟨#[108, 97, 110, 100]⟩))], (some (14, false))⟩, G 17 14 false (.bin .eql .ptr (t 16) (.const (.pointer none))), K 18 (.pick (t 14) (.const (.bool true)) (t 17))])
 (.cond (t 18) (.seq (r [K 0 (.mov (.const (.bool false)))])
 (.ret)) (.skip)))
 (.seq (r [M 19 1, M 20 2, L 21 (.call (.func 336) [(i 1)]), ⟨(some 22), true, .call (.func 337) [(.const (.string ⟨#[97]⟩))], none⟩, ⟨(some 23), true, .buildSlice 3 2 [.int .i64 0, .int .i64 0, .string ⟨#[]⟩] [(0, 3, (t 21)), (3, 3, (t 22))] false, none⟩, ⟨(some 24), true, .build [.int .i64 0, .string ⟨#[]⟩, .int .i64 0, .string ⟨#[]⟩, .slice none 0 0] [(0, 1, (i 1)), (1, 1, (.const (.string ⟨#[108, 97, 110, 100]⟩))), (4, 1, (t 23))], none⟩, L 25 (.call (.func 336) [(i 2)]), ⟨(some 26), true, .call (.func 337) [(.const (.string ⟨#[97]⟩))], none⟩, ⟨(some 27), true, .buildSlice 3 2 [.int .i64 0, .int .i64 0, .string ⟨#[]⟩] [(0, 3, (t 25)), (3, 3, (t 26))] false, none⟩, ⟨(some 28), true, .build [.int .i64 0, .string ⟨#[]⟩, .int .i64 0, .string ⟨#[]⟩, .slice none 0 0] [(0, 1, (i 1)), (1, 1, (.const (.string ⟨#[108, 97, 110, 100]⟩))), (4, 1, (t 27))], none⟩, ⟨(some 29), true, .buildSlice 5 2 [.int .i64 0, .string ⟨#[]⟩, .int .i64 0, .string ⟨#[]⟩, .slice none 0 0] [(0, 5, (t 24)), (5, 5, (t 28))] false, none⟩, L 30 (.call (.func 27) [(t 19), (t 20), (t 29)])])
 (.seq (r [M 32 1, ⟨(some 33), true, .buildSlice 1 1 [.string ⟨#[]⟩] [(0, 1, (.const (.string ⟨#[110, 97, 109, 101]⟩)))] false, none⟩, ⟨(some 34), true, .call (.func 338) [(t 32), (.const (.string ⟨#[108, 97, 110, 100]⟩)), (t 33)], none⟩, M 31 34, L 35 (.extract (t 31) 0), L 36 (.extract (t 31) 1), J 3 35, J 4 36])
 (.seq (r [M 38 1, ⟨(some 39), true, .buildSlice 1 1 [.string ⟨#[]⟩] [(0, 1, (.const (.string ⟨#[120]⟩)))] false, none⟩, ⟨(some 40), true, .call (.func 338) [(t 38), (.const (.string ⟨#[108, 97, 110, 100]⟩)), (t 39)], none⟩, M 37 40, L 41 (.extract (t 37) 0), L 42 (.extract (t 37) 1), M 5 41, J 6 42])
 (.seq (.seq (r [M 43 4, L 44 (.bin .neq .none (t 43) (i 0)), M 45 44, G 46 45 false (.mov (t 3)), G 47 45 false (.bin .eql .ptr (t 46) (.const (.pointer none))), K 48 (.pick (t 45) (.const (.bool true)) (t 47))])
 (.cond (t 48) (.seq (r [K 0 (.mov (.const (.bool false)))])
 (.ret)) (.skip)))
 (.seq (r [M 49 3, ⟨(some 50), true, .call (.func 337) [(.const (.string ⟨#[97]⟩))], none⟩, L 51 (.call (.func 317) [(t 49), (t 50)]), L 52 (.call (.func 233) [(t 51)]), J 7 52])
 (.seq (r [M 53 1, ⟨(some 54), true, .call (.func 12) [(t 53), (.const (.string ⟨#[108, 97, 110, 100]⟩))], none⟩, L 55 (.call (.func 67) [(t 54), (i 0)])])
 (.seq (r [M 56 3, M 57 1, L 58 (.call (.func 339) [(t 56), (t 57)])])
 (.seq (r [L 59 (.call (.func 340) []), M 60 59, G 61 60 true (.mov (t 6)), G 62 60 true (.bin .eql .none (t 61) (i 3)), L 63 (.pick (t 60) (t 62) (.const (.bool false))), M 64 63, G 65 64 true (.mov (t 7)), G 66 64 true (.bin .eql .none (t 65) (i 2)), L 67 (.pick (t 64) (t 66) (.const (.bool false))), M 68 67, G 69 68 true (.mov (t 3)), ⟨(some 70), true, .call (.func 337) [(.const (.string ⟨#[97]⟩))], (some (68, true))⟩, G 71 68 true (.call (.func 317) [(t 69), (t 70)]), G 72 68 true (.call (.func 233) [(t 71)]), G 73 68 true (.bin .eql .none (t 72) (i 1)), L 74 (.pick (t 68) (t 73) (.const (.bool false))), M 75 74, G 76 75 true (.mov (t 3)), ⟨(some 77), true, .call (.func 337) [(.const (.string ⟨#[97]⟩))], (some (75, true))⟩, G 78 75 true (.call (.func 317) [(t 76), (t 77)]), G 79 75 true (.call (.func 46) [(t 78), (i 1)]), L 80 (.pick (t 75) (t 79) (.const (.bool false))), M 81 80, G 82 81 true (.mov (t 3)), G 83 81 true (.call (.func 336) [(i 1)]), G 84 81 true (.call (.func 317) [(t 82), (t 83)]), G 85 81 true (.call (.func 233) [(t 84)]), G 86 81 true (.bin .eql .none (t 85) (i 0)), L 87 (.pick (t 81) (t 86) (.const (.bool false))), M 88 87, G 89 88 true (.mov (t 3)), G 90 88 true (.call (.func 316) [(t 89)]), G 91 88 true (.len false (t 90)), G 92 88 true (.bin .eql .none (t 91) (i 1)), L 93 (.pick (t 88) (t 92) (.const (.bool false))), M 94 93, G 95 94 true (.mov (t 3)), ⟨(some 96), true, .call (.func 337) [(.const (.string ⟨#[97]⟩))], (some (94, true))⟩, G 97 94 true (.call (.func 277) [(t 95), (i 6), (t 96)]), G 98 94 true (.call (.func 233) [(t 97)]), G 99 94 true (.bin .eql .none (t 98) (i 1)), L 100 (.pick (t 94) (t 99) (.const (.bool false))), J 0 100])
 (.ret)))))))))))⟩
def f300 : LFunc := ⟨30, [5, 18, 7, 1, 9, 12, 10, 11, 2, 0, 4], [.tmp 4],
 .seq (r [K 2 (.box 1 (t 0) false), K 4 (.mov (i 0))])
 (.seq (r [K 5 (.mov (i 0))])
 (.seq (.seq (r [L 8 (.fieldAddr 0 (t 2)), K 9 (.load none (t 8)), K 10 (.len false (t 9)), K 11 (.mov (i 0))])
 (.block 0 (.loop [] (.seq (r [K 12 (.bin .lss .none (t 11) (t 10))])
 (.seq (.cond (t 12) (.skip) (.exit 0))
 (.seq (.block 1 (.seq (r [L 13 (.indexSl 2 (t 9) (t 11)), L 14 (.load (some 2) (t 13)), K 7 (.alloc 2 [.int .i64 0, .int .i64 0]), N (.store 2 (t 7) (t 14) false)])
 (.seq (r [M 15 1, L 16 (.indexArrAddr 1 2 (t 7) (i 0)), L 17 (.load none (t 16)), K 18 (.bin .gtr .none (t 15) (t 17))])
 (.cond (t 18) (r [M 19 5, M 20 1, L 21 (.indexArrAddr 1 2 (t 7) (i 1)), L 22 (.load none (t 21)), L 23 (.min2 (t 20) (t 22)), L 24 (.indexArrAddr 1 2 (t 7) (i 0)), L 25 (.load none (t 24)), L 26 (.bin .sub .none (t 23) (t 25)), L 27 (.bin .add .none (t 19) (t 26)), J 5 27]) (.skip)))))
 (r [L 28 (.bin .add .none (t 11) (i 1)), J 11 28])))))))
 (.seq (r [M 29 5, J 4 29])
 (.ret))))⟩
def f301 : LFunc := ⟨19, [16, 5, 1, 9, 7, 8, 0, 4], [.tmp 4],
 .seq (r [K 4 (.mov (i 0))])
 (.seq (.seq (r [M 6 0, K 7 (.len false (t 6)), K 8 (.mov (i 0))])
 (.block 0 (.loop [] (.seq (r [K 9 (.bin .lss .none (t 8) (t 7))])
 (.seq (.cond (t 9) (.skip) (.exit 0))
 (.seq (.block 1 (.seq (r [M 10 8, J 5 10])
 (.seq (r [M 11 1, M 12 0, M 13 5, L 14 (.indexSl 1 (t 12) (t 13)), L 15 (.load none (t 14)), K 16 (.bin .eql .none (t 11) (t 15))])
 (.cond (t 16) (.seq (r [M 17 5, J 4 17])
 (.ret)) (.skip)))))
 (r [L 18 (.bin .add .none (t 8) (i 1)), J 8 18])))))))
 (.seq (r [K 4 (.mov (i (-1)))])
 (.ret)))⟩
def f302 : LFunc := ⟨19, [16, 5, 1, 9, 7, 8, 0, 4], [.tmp 4],
 .seq (r [K 4 (.mov (i 0))])
 (.seq (.seq (r [M 6 0, K 7 (.len false (t 6)), K 8 (.mov (i 0))])
 (.block 0 (.loop [] (.seq (r [K 9 (.bin .lss .none (t 8) (t 7))])
 (.seq (.cond (t 9) (.skip) (.exit 0))
 (.seq (.block 1 (.seq (r [M 10 8, J 5 10])
 (.seq (r [M 11 1, M 12 0, M 13 5, L 14 (.indexSl 1 (t 12) (t 13)), L 15 (.load none (t 14)), K 16 (.call (t 11) [(t 15)])])
 (.cond (t 16) (.seq (r [M 17 5, J 4 17])
 (.ret)) (.skip)))))
 (r [L 18 (.bin .add .none (t 8) (i 1)), J 8 18])))))))
 (.seq (r [K 4 (.mov (i (-1)))])
 (.ret)))⟩
def f311 : LFunc := ⟨8, [1, 0, 4], [.tmp 4],
 .seq (r [K 4 (.mov (i 0))])
 (.seq (r [M 5 0, M 6 1, L 7 (.call (.func 343) [(t 5), (t 6)]), J 4 7])
 (.ret))⟩
def f312 : LFunc := ⟨49, [31, 1, 11, 2, 17, 10, 9, 8, 0, 6, 7], [.tmp 6, .tmp 7],
 .seq (r [K 6 (.mov (i 0)), K 7 (.mov (.const (.bool false)))])
 (.seq (r [M 12 0, L 13 (.len false (t 12)), J 8 13])
 (.seq (r [M 14 8, K 9 (.mov (i 0)), J 10 14])
 (.seq (.block 0 (.loop [] (.seq (.seq (r [M 15 9, M 16 10, K 17 (.bin .lss .none (t 15) (t 16))])
 (.cond (t 17) (.skip) (.exit 0)))
 (.block 1 (.seq (r [M 18 9, M 19 10, L 20 (.bin .add .none (t 18) (t 19)), L 21 (.conv (.int .u64) (t 20)), L 22 (.bin .shr .none (t 21) (.const (.int .u64 1))), L 23 (.conv (.int .i64) (t 22)), J 11 23])
 (.seq (r [M 24 2, M 25 0, M 26 11, L 27 (.indexSl 2 (t 25) (t 26)), L 28 (.load (some 2) (t 27)), M 29 1, L 30 (.call (t 24) [(t 28), (t 29)]), K 31 (.bin .lss .none (t 30) (i 0))])
 (.cond (t 31) (r [M 32 11, L 33 (.bin .add .none (t 32) (i 1)), J 9 33]) (r [M 34 11, J 10 34]))))))))
 (.seq (r [M 35 9, M 36 9, M 37 8, L 38 (.bin .lss .none (t 36) (t 37)), M 39 38, G 40 39 true (.mov (t 2)), G 41 39 true (.mov (t 0)), G 42 39 true (.mov (t 9)), G 43 39 true (.indexSl 2 (t 41) (t 42)), G 44 39 true (.load (some 2) (t 43)), G 45 39 true (.mov (t 1)), G 46 39 true (.call (t 40) [(t 44), (t 45)]), G 47 39 true (.bin .eql .none (t 46) (i 0)), L 48 (.pick (t 39) (t 47) (.const (.bool false))), J 6 35, J 7 48])
 (.ret)))))⟩
def f313 : LFunc := ⟨14, [1, 3, 2, 0, 5], [.tmp 5],
 .seq (r [K 3 (.box 2 (t 0) false), K 5 (.mov (i 0))])
 (.seq (r [L 6 (.load none (t 2)), L 7 (.nilCheck (t 6)), L 8 (.fieldAddr 0 (t 7)), L 9 (.load none (t 8)), L 10 (.fieldAddr 0 (t 3)), L 11 (.load none (t 10)), M 12 1, L 13 (.call (t 9) [(t 11), (t 12)]), J 5 13])
 (.ret))⟩
def f316 : LFunc := ⟨19, [4, 3, 13, 12, 11, 6, 0, 2], [.tmp 2],
 .seq (r [K 2 (.mov (.const (.slice none 0 0)))])
 (.seq (.seq (r [M 5 0, K 6 (.bin .eql .ptr (t 5) (.const (.pointer none)))])
 (.cond (t 6) (.seq (r [K 2 (.mov (.const (.slice none 0 0)))])
 (.ret)) (.skip)))
 (.seq (r [K 3 (.alloc 1 [.slice none 0 0])])
 (.seq (.seq (r [M 7 0, L 8 (.nilCheck (t 7)), L 9 (.fieldAddr 2 (t 8)), L 10 (.load none (t 9)), K 11 (.call (.func 345) [(t 10)])])
 (.block 0 (.rangeFunc (t 11) [12, 13] (r [⟨(some 4), false, .alloc 3 [.int .i64 0, .int .i64 0, .string ⟨#[]⟩], none⟩, N (.store 3 (t 4) (t 12) false)]) (.block 1 (r [L 14 (.load none (t 3)), L 15 (.load (some 3) (t 4)), ⟨(some 16), true, .buildSlice 3 1 [.int .i64 0, .int .i64 0, .string ⟨#[]⟩] [(0, 3, (t 15))] false, none⟩, L 17 (.append 3 32 (t 14) (t 16)), N (.store 1 (t 3) (t 17) false)])))))
 (.seq (r [L 18 (.load none (t 3)), J 2 18])
 (.ret)))))⟩
def f317 : LFunc := ⟨20, [5, 3, 8, 0, 1, 4], [.cell 4 (some 1)],
 .seq (r [K 3 (.box 3 (t 1) false), K 4 (.alloc 1 [.slice none 0 0])])
 (.seq (.seq (r [M 7 0, K 8 (.bin .eql .ptr (t 7) (.const (.pointer none)))])
 (.cond (t 8) (.seq (r [L 9 (.build [.slice none 0 0] []), N (.store 1 (t 4) (t 9) false)])
 (.ret)) (.skip)))
 (.seq (r [M 11 0, L 12 (.nilCheck (t 11)), L 13 (.fieldAddr 2 (t 12)), L 14 (.load none (t 13)), L 15 (.load (some 3) (t 3)), L 16 (.call (.func 346) [(t 14), (t 15)]), M 10 16, L 17 (.extract (t 10) 0), L 18 (.extract (t 10) 1), K 5 (.alloc 1 [.slice none 0 0]), N (.store 1 (t 5) (t 17) false), M 6 18])
 (.seq (r [L 19 (.load (some 1) (t 5)), N (.store 1 (t 4) (t 19) false)])
 (.ret))))⟩
def f318 : LFunc := ⟨24, [1, 14, 2, 0, 4, 5], [.tmp 4, .tmp 5],
 .seq (r [K 2 (.box 1 (t 0) false), K 4 (.mov (i 0)), K 5 (.mov (.const (.bool false)))])
 (.seq (.seq (r [L 6 (.load none (t 2)), L 7 (.bin .eql .ptr (t 6) (.const (.pointer none))), M 8 7, G 9 8 false (.load none (t 2)), G 10 8 false (.nilCheck (t 9)), G 11 8 false (.fieldAddr 0 (t 10)), G 12 8 false (.load none (t 11)), G 13 8 false (.bin .eql .func (t 12) (.const (.nilFunc))), K 14 (.pick (t 8) (.const (.bool true)) (t 13))])
 (.cond (t 14) (.seq (r [K 4 (.mov (i 0)), K 5 (.mov (.const (.bool false)))])
 (.ret)) (.skip)))
 (.seq (r [L 15 (.load none (t 2)), L 16 (.nilCheck (t 15)), L 17 (.fieldAddr 1 (t 16)), L 18 (.load none (t 17)), M 19 1, L 20 (.makeFunc (.func 348) [] [(t 2)]), L 21 (.call (.func 347) [(t 18), (t 19), (t 20)]), L 22 (.extract (t 21) 0), L 23 (.extract (t 21) 1), J 4 22, J 5 23])
 (.ret)))⟩
def f319 : LFunc := ⟨8, [3, 0, 2], [.tmp 2],
 .seq (r [K 2 (.mov (.const (.slice none 0 0)))])
 (.seq (r [K 3 (.alloc 1 [.slice none 0 0])])
 (.seq (r [M 4 0, L 5 (.makeFunc (.func 350) [] [(t 3)]), L 6 (.call (.func 349) [(t 4), (t 5)])])
 (.seq (r [L 7 (.load none (t 3)), J 2 7])
 (.ret))))⟩
def f320 : LFunc := ⟨6, [3, 2, 1, 0, 4], [.tmp 4],
 .seq (r [K 2 (.box 1 (t 0) false), K 3 (.box 1 (t 1) false), K 4 (.mov (.const (.nilFunc)))])
 (.seq (r [L 5 (.makeFunc (.func 351) [] [(t 2), (t 3)]), J 4 5])
 (.ret))⟩
def f321 : LFunc := ⟨5, [0, 2], [.tmp 2],
 .seq (r [K 2 (.mov (.const (.nilFunc)))])
 (.seq (r [M 3 0, L 4 (.call (.func 354) [(t 3)]), J 2 4])
 (.ret))⟩
def f322 : LFunc := ⟨6, [1, 0, 2], [.tmp 2],
 .seq (r [K 1 (.box 2 (t 0) false), K 2 (.mov (.const (.pointer none)))])
 (.seq (r [L 3 (.fieldAddr 0 (t 1)), L 4 (.load none (t 3)), L 5 (.call (.func 42) [(t 4)]), J 2 5])
 (.ret))⟩
def f323 : LFunc := ⟨95, [68, 9, 31, 22, 8, 16, 7, 2, 1, 0, 6], [.tmp 6],
 .seq (r [K 6 (.mov (.const (.slice none 0 0)))])
 (.seq (r [M 10 0, M 11 1, L 12 (.sliceSl 2 (t 10) (some (t 11)) none none)])
 (.seq (r [M 13 2, L 14 (.len false (t 13)), J 7 14])
 (.seq (.seq (r [M 15 7, K 16 (.bin .eql .none (t 15) (i 0))])
 (.cond (t 16) (.seq (r [M 17 0, J 6 17])
 (.ret)) (.skip)))
 (.seq (r [M 18 0, L 19 (.len false (t 18)), J 8 19])
 (.seq (.seq (r [M 20 1, M 21 8, K 22 (.bin .eql .none (t 20) (t 21))])
 (.cond (t 22) (.seq (r [M 23 0, M 24 2, L 25 (.append 2 48 (t 23) (t 24)), J 6 25])
 (.ret)) (.skip)))
 (.seq (.seq (r [M 26 8, M 27 7, L 28 (.bin .add .none (t 26) (t 27)), M 29 0, L 30 (.cap (t 29)), K 31 (.bin .gtr .none (t 28) (t 30))])
 (.cond (t 31) (.seq (r [M 32 0, M 33 1, L 34 (.sliceSl 2 (t 32) none (some (t 33)) none), M 35 8, M 36 7, L 37 (.bin .add .none (t 35) (t 36)), M 38 1, L 39 (.bin .sub .none (t 37) (t 38)), L 40 (.appendZ 2 48 [.slice none 0 0, .slice none 0 0] (t 34) (t 39)), J 9 40])
 (.seq (r [M 41 9, M 42 1, L 43 (.sliceSl 2 (t 41) (some (t 42)) none none), M 44 2, L 45 (.copy 2 (t 43) (t 44))])
 (.seq (r [M 46 9, M 47 1, M 48 7, L 49 (.bin .add .none (t 47) (t 48)), L 50 (.sliceSl 2 (t 46) (some (t 49)) none none), M 51 0, M 52 1, L 53 (.sliceSl 2 (t 51) (some (t 52)) none none), L 54 (.copy 2 (t 50) (t 53))])
 (.seq (r [M 55 9, J 6 55])
 (.ret))))) (.skip)))
 (.seq (r [M 56 0, M 57 8, M 58 7, L 59 (.bin .add .none (t 57) (t 58)), L 60 (.sliceSl 2 (t 56) none (some (t 59)) none), J 0 60])
 (.seq (.seq (r [M 61 2, M 62 0, M 63 1, M 64 7, L 65 (.bin .add .none (t 63) (t 64)), L 66 (.sliceSl 2 (t 62) (some (t 65)) none none), L 67 (.call (.func 355) [(t 61), (t 66)]), K 68 (.un .not (t 67))])
 (.cond (t 68) (.seq (r [M 69 0, M 70 1, M 71 7, L 72 (.bin .add .none (t 70) (t 71)), L 73 (.sliceSl 2 (t 69) (some (t 72)) none none), M 74 0, M 75 1, L 76 (.sliceSl 2 (t 74) (some (t 75)) none none), L 77 (.copy 2 (t 73) (t 76))])
 (.seq (r [M 78 0, M 79 1, L 80 (.sliceSl 2 (t 78) (some (t 79)) none none), M 81 2, L 82 (.copy 2 (t 80) (t 81))])
 (.seq (r [M 83 0, J 6 83])
 (.ret)))) (.skip)))
 (.seq (r [M 84 0, M 85 8, L 86 (.sliceSl 2 (t 84) (some (t 85)) none none), M 87 2, L 88 (.copy 2 (t 86) (t 87))])
 (.seq (r [M 89 0, M 90 1, L 91 (.sliceSl 2 (t 89) (some (t 90)) none none), M 92 7, L 93 (.call (.func 356) [(t 91), (t 92)])])
 (.seq (r [M 94 0, J 6 94])
 (.ret))))))))))))⟩
def f324 : LFunc := ⟨9, [1, 5, 0], [],
 .seq (r [M 4 0, K 5 (.bin .neq .func (t 4) (.const (.nilFunc)))])
 (.cond (t 5) (r [M 6 0, M 7 1, L 8 (.call (t 6) [(t 7)])]) (.skip))⟩
def f325 : LFunc := ⟨8, [2, 1, 0, 3], [.tmp 3],
 .seq (r [K 2 (.box 2 (t 0) false), K 3 (.mov (.const (.bool false)))])
 (.seq (r [L 4 (.load none (t 1)), L 5 (.load (some 2) (t 2)), L 6 (.buildSlice 2 1 [.int .i64 0, .slice none 0 0] [(0, 2, (t 5))] false), L 7 (.append 2 32 (t 4) (t 6)), N (.store 1 (t 1) (t 7) false)])
 (.seq (r [K 3 (.mov (.const (.bool true)))])
 (.ret)))⟩
def f326 : LFunc := ⟨7, [3, 2, 1, 0], [],
 .seq (r [K 3 (.box 1 (t 0) false)])
 (r [L 4 (.load none (t 1)), L 5 (.makeFunc (.func 327) [] [(t 2), (t 3)]), L 6 (.call (.func 324) [(t 4), (t 5)])])⟩
def f327 : LFunc := ⟨14, [2, 3, 1, 0, 4], [.tmp 4],
 .seq (r [K 3 (.box 2 (t 0) false), K 4 (.mov (.const (.bool false)))])
 (.seq (r [L 5 (.load none (t 1)), L 6 (.load (some 2) (t 3)), L 7 (.call (t 5) [(t 6)]), L 8 (.un .not (t 7)), M 9 8, G 10 9 false (.load none (t 2)), G 11 9 false (.load (some 2) (t 3)), G 12 9 false (.call (t 10) [(t 11)]), L 13 (.pick (t 9) (.const (.bool true)) (t 12)), J 4 13])
 (.ret))⟩
def f328 : LFunc := ⟨4, [1, 0, 2], [.tmp 2],
 .seq (r [K 1 (.box 1 (t 0) false), K 2 (.mov (.const (.nilFunc)))])
 (.seq (r [L 3 (.makeFunc (.func 357) [] [(t 1)]), J 2 3])
 (.ret))⟩
def f329 : LFunc := ⟨19, [16, 5, 1, 9, 7, 8, 0, 4], [.tmp 4],
 .seq (r [K 4 (.mov (i 0))])
 (.seq (.seq (r [M 6 0, K 7 (.len false (t 6)), K 8 (.mov (i 0))])
 (.block 0 (.loop [] (.seq (r [K 9 (.bin .lss .none (t 8) (t 7))])
 (.seq (.cond (t 9) (.skip) (.exit 0))
 (.seq (.block 1 (.seq (r [M 10 8, J 5 10])
 (.seq (r [M 11 1, M 12 0, M 13 5, L 14 (.indexSl 5 (t 12) (t 13)), L 15 (.load (some 5) (t 14)), K 16 (.call (t 11) [(t 15)])])
 (.cond (t 16) (.seq (r [M 17 5, J 4 17])
 (.ret)) (.skip)))))
 (r [L 18 (.bin .add .none (t 8) (i 1)), J 8 18])))))))
 (.seq (r [K 4 (.mov (i (-1)))])
 (.ret)))⟩
def f330 : LFunc := ⟨63, [54, 9, 35, 30, 2, 7, 0, 13, 1, 8, 6], [],
 .seq (r [K 6 (.mov (i 20))])
 (.seq (r [M 10 6, K 7 (.mov (i 0)), J 8 10])
 (.seq (.block 0 (.loop [] (.seq (.seq (r [M 11 8, M 12 1, K 13 (.bin .leq .none (t 11) (t 12))])
 (.cond (t 13) (.skip) (.exit 0)))
 (.block 1 (.seq (r [M 14 0, M 15 7, M 16 8, M 17 2, L 18 (.call (.func 358) [(t 14), (t 15), (t 16), (t 17)])])
 (.seq (r [M 19 8, J 7 19])
 (r [M 20 8, M 21 6, L 22 (.bin .add .none (t 20) (t 21)), J 8 22])))))))
 (.seq (r [M 23 0, M 24 7, M 25 1, M 26 2, L 27 (.call (.func 358) [(t 23), (t 24), (t 25), (t 26)])])
 (.block 2 (.loop [] (.seq (.seq (r [M 28 6, M 29 1, K 30 (.bin .lss .none (t 28) (t 29))])
 (.cond (t 30) (.skip) (.exit 2)))
 (.block 3 (.seq (r [M 31 6, L 32 (.bin .mul .none (i 2) (t 31)), K 7 (.mov (i 0)), J 8 32])
 (.seq (.block 4 (.loop [] (.seq (.seq (r [M 33 8, M 34 1, K 35 (.bin .leq .none (t 33) (t 34))])
 (.cond (t 35) (.skip) (.exit 4)))
 (.block 5 (.seq (r [M 36 0, M 37 7, M 38 7, M 39 6, L 40 (.bin .add .none (t 38) (t 39)), M 41 8, M 42 2, L 43 (.call (.func 359) [(t 36), (t 37), (t 40), (t 41), (t 42)])])
 (.seq (r [M 44 8, J 7 44])
 (r [M 45 8, M 46 6, L 47 (.bin .mul .none (i 2) (t 46)), L 48 (.bin .add .none (t 45) (t 47)), J 8 48])))))))
 (.seq (.seq (r [M 49 7, M 50 6, L 51 (.bin .add .none (t 49) (t 50)), J 9 51])
 (.seq (r [M 52 9, M 53 1, K 54 (.bin .lss .none (t 52) (t 53))])
 (.cond (t 54) (r [M 55 0, M 56 7, M 57 9, M 58 1, M 59 2, L 60 (.call (.func 359) [(t 55), (t 56), (t 57), (t 58), (t 59)])]) (.skip))))
 (r [M 61 6, L 62 (.bin .mul .none (t 61) (i 2)), J 6 62])))))))))))⟩
def f333 : LFunc := ⟨12, [5, 1, 0, 4], [.tmp 4],
 .seq (r [K 4 (.mov (.const (.slice none 0 0)))])
 (.seq (r [M 6 0, M 7 1, L 8 (.call (.func 360) [(t 6), (t 7), (i 4)]), J 5 8])
 (.seq (r [M 9 5, L 10 (.call (.func 361) [(t 9), (.func 165)])])
 (.seq (r [M 11 5, J 4 11])
 (.ret))))⟩
def f334 : LFunc := ⟨2, [0], [.tmp 0],
 .seq (r [K 0 (.mov (.const (.bool false)))])
 (.seq (r [L 1 (.call (.func 362) []), J 0 1])
 (.ret))⟩
def f335 : LFunc := ⟨5, [0, 2], [.tmp 2],
 .seq (r [⟨(some 2), false, .mov (.const (.string ⟨#[]⟩)), none⟩])
 (.seq (r [M 3 0, ⟨(some 4), true, .call (.func 363) [(t 3), (.const (.string ⟨#[46]⟩))], none⟩, J 2 4])
 (.ret))⟩
def f336 : LFunc := ⟨5, [0, 2], [.cell 2 (some 3)],
 .seq (r [⟨(some 2), false, .alloc 3 [.int .i64 0, .int .i64 0, .string ⟨#[]⟩], none⟩])
 (.seq (r [M 3 0, ⟨(some 4), true, .build [.int .i64 0, .int .i64 0, .string ⟨#[]⟩] [(0, 1, (i 1)), (1, 1, (t 3))], none⟩, N (.store 3 (t 2) (t 4) false)])
 (.ret))⟩
def f337 : LFunc := ⟨5, [0, 2], [.cell 2 (some 3)],
 .seq (r [⟨(some 2), false, .alloc 3 [.int .i64 0, .int .i64 0, .string ⟨#[]⟩], none⟩])
 (.seq (r [M 3 0, ⟨(some 4), true, .build [.int .i64 0, .int .i64 0, .string ⟨#[]⟩] [(0, 1, (i 2)), (2, 1, (t 3))], none⟩, N (.store 3 (t 2) (t 4) false)])
 (.ret))⟩
def f338 : LFunc := ⟨33, [11, 22, 10, 2, 1, 0, 6, 7], [.tmp 6, .tmp 7],
 .seq (r [K 6 (.mov (.const (.pointer none))), K 7 (.mov (i 0))])
 (.seq (.seq (r [M 13 0, L 14 (.call (.func 45) [(t 13)]), M 15 1, M 16 2, L 17 (.call (.func 44) [(t 14), (t 15), (t 16)]), M 12 17, L 18 (.extract (t 12) 0), L 19 (.extract (t 12) 1), L 20 (.extract (t 12) 2), ⟨(some 8), true, .alloc 4 [.string ⟨#[]⟩, .int .i64 0, .bool false, .string ⟨#[]⟩], none⟩, N (.store 4 (t 8) (t 18) false), M 9 19, J 10 20])
 (.seq (r [M 21 10, K 22 (.bin .neq .none (t 21) (i 0))])
 (.cond (t 22) (.seq (r [M 23 10, K 6 (.mov (.const (.pointer none))), J 7 23])
 (.ret)) (.skip))))
 (.seq (r [M 24 1, M 25 2, L 26 (.append 1 16 (.const (.slice none 0 0)) (t 25)), ⟨(some 27), true, .build [.string ⟨#[]⟩, .slice none 0 0, .pointer none] [(0, 1, (t 24)), (1, 1, (t 26))], none⟩, L 28 (.box 3 (t 27) false), J 11 28])
 (.seq (r [M 29 11, M 30 0, L 31 (.call (.func 339) [(t 29), (t 30)])])
 (.seq (r [M 32 11, J 6 32, K 7 (.mov (i 0))])
 (.ret)))))⟩
def f339 : LFunc := ⟨67, [11, 10, 58, 57, 56, 8, 6, 4, 5, 23, 22, 3, 13, 2, 1, 0], [],
 .seq (r [K 2 (.box 1 (t 0) false), K 3 (.box 1 (t 1) false)])
 (.seq (.seq (r [L 12 (.load none (t 2)), K 13 (.bin .eql .ptr (t 12) (.const (.pointer none)))])
 (.cond (t 13) (.ret) (.skip)))
 (.seq (r [L 14 (.call (.func 364) [(.func 35)]), K 4 (.alloc 1 [.pointer none]), N (.store 1 (t 4) (t 14) false)])
 (.seq (.seq (r [L 15 (.load none (t 3)), L 16 (.load none (t 2)), L 17 (.nilCheck (t 16)), L 18 (.fieldAddr 0 (t 17)), L 19 (.load none (t 18)), L 20 (.call (.func 12) [(t 15), (t 19)]), L 21 (.call (.func 13) [(t 20)]), K 22 (.call (.func 14) [(t 21)])])
 (.block 0 (.rangeFunc (t 22) [23] (r [J 5 23]) (.block 1 (.seq (r [L 25 (.load none (t 3)), L 26 (.load none (t 2)), L 27 (.nilCheck (t 26)), L 28 (.fieldAddr 0 (t 27)), L 29 (.load none (t 28)), M 30 5, L 31 (.load none (t 2)), L 32 (.nilCheck (t 31)), L 33 (.fieldAddr 1 (t 32)), L 34 (.load none (t 33)), L 35 (.call (.func 19) [(t 25), (t 29), (t 30), (t 34)]), M 24 35, L 36 (.extract (t 24) 0), L 37 (.extract (t 24) 1), ⟨(some 6), false, .alloc 3 [.int .i64 0, .int .i64 0, .string ⟨#[]⟩], none⟩, N (.store 3 (t 6) (t 36) false), M 7 37])
 (.seq (r [L 39 (.load none (t 4)), L 40 (.load (some 3) (t 6)), L 41 (.call (.func 365) [(t 39), (t 40)]), M 38 41, L 42 (.extract (t 38) 0), L 43 (.extract (t 38) 1), J 8 42, M 9 43])
 (.region [L 44 (.load none (t 4)), L 45 (.load (some 3) (t 6)), M 46 8, M 47 5, L 48 (.buildSlice 1 1 [.int .i64 0] [(0, 1, (t 47))] false), L 49 (.append 1 8 (t 46) (t 48)), L 50 (.call (.func 366) [(t 44), (t 45), (t 49)])] [(0, 5), (1, 5)])))))))
 (.seq (.region [L 51 (.load none (t 2)), L 52 (.call (.func 367) [(.func 35)]), L 53 (.nilCheck (t 51)), L 54 (.fieldAddr 2 (t 53)), N (.store 1 (t 54) (t 52) false)] [(0, 1)])
 (.seq (r [L 55 (.load none (t 4)), K 56 (.call (.func 368) [(t 55)])])
 (.block 2 (.rangeFunc (t 56) [57, 58] (.seq (r [⟨(some 10), false, .alloc 3 [.int .i64 0, .int .i64 0, .string ⟨#[]⟩], none⟩, N (.store 3 (t 10) (t 57) false)])
 (r [J 11 58])) (.block 3 (.region [L 59 (.load none (t 2)), L 60 (.nilCheck (t 59)), L 61 (.fieldAddr 2 (t 60)), L 62 (.load none (t 61)), L 63 (.load (some 3) (t 10)), M 64 11, L 65 (.call (.func 119) [(t 64)]), L 66 (.call (.func 369) [(t 62), (t 63), (t 65)])] [(0, 6), (3, 6), (4, 6)])))))))))⟩
def f340 : LFunc := ⟨2, [0], [.tmp 0],
 .seq (r [K 0 (.mov (.const (.bool false)))])
 (.seq (r [L 1 (.call (.func 370) []), J 0 1])
 (.ret))⟩
def f345 : LFunc := ⟨4, [1, 0, 2], [.tmp 2],
 .seq (r [K 1 (.box 1 (t 0) false), K 2 (.mov (.const (.nilFunc)))])
 (.seq (r [L 3 (.makeFunc (.func 372) [] [(t 1)]), J 2 3])
 (.ret))⟩
def f346 : LFunc := ⟨26, [6, 8, 16, 7, 3, 0, 1, 4, 5], [.cell 4 (some 1), .tmp 5],
 .seq (r [K 3 (.box 3 (t 1) false), K 4 (.alloc 1 [.slice none 0 0]), K 5 (.mov (.const (.bool false)))])
 (.seq (r [M 10 0, L 11 (.load (some 3) (t 3)), L 12 (.call (.func 374) [(t 10), (t 11)]), M 9 12, L 13 (.extract (t 9) 0), L 14 (.extract (t 9) 1), J 6 13, J 7 14])
 (.seq (.seq (r [M 15 7, K 16 (.un .not (t 15))])
 (.cond (t 16) (.seq (r [K 8 (.alloc 1 [.slice none 0 0])])
 (.seq (r [L 17 (.load (some 1) (t 8)), N (.store 1 (t 4) (t 17) false), K 5 (.mov (.const (.bool false)))])
 (.ret))) (.skip)))
 (.seq (r [M 18 0, L 19 (.nilCheck (t 18)), L 20 (.fieldAddr 1 (t 19)), L 21 (.load none (t 20)), M 22 6, L 23 (.indexSl 4 (t 21) (t 22)), L 24 (.fieldAddr 3 (t 23)), L 25 (.load (some 1) (t 24)), N (.store 1 (t 4) (t 25) false), K 5 (.mov (.const (.bool true)))])
 (.ret))))⟩
def f347 : LFunc := ⟨49, [31, 1, 11, 2, 17, 10, 9, 8, 0, 6, 7], [.tmp 6, .tmp 7],
 .seq (r [K 6 (.mov (i 0)), K 7 (.mov (.const (.bool false)))])
 (.seq (r [M 12 0, L 13 (.len false (t 12)), J 8 13])
 (.seq (r [M 14 8, K 9 (.mov (i 0)), J 10 14])
 (.seq (.block 0 (.loop [] (.seq (.seq (r [M 15 9, M 16 10, K 17 (.bin .lss .none (t 15) (t 16))])
 (.cond (t 17) (.skip) (.exit 0)))
 (.block 1 (.seq (r [M 18 9, M 19 10, L 20 (.bin .add .none (t 18) (t 19)), L 21 (.conv (.int .u64) (t 20)), L 22 (.bin .shr .none (t 21) (.const (.int .u64 1))), L 23 (.conv (.int .i64) (t 22)), J 11 23])
 (.seq (r [M 24 2, M 25 0, M 26 11, L 27 (.indexSl 2 (t 25) (t 26)), L 28 (.load (some 2) (t 27)), M 29 1, L 30 (.call (t 24) [(t 28), (t 29)]), K 31 (.bin .lss .none (t 30) (i 0))])
 (.cond (t 31) (r [M 32 11, L 33 (.bin .add .none (t 32) (i 1)), J 9 33]) (r [M 34 11, J 10 34]))))))))
 (.seq (r [M 35 9, M 36 9, M 37 8, L 38 (.bin .lss .none (t 36) (t 37)), M 39 38, G 40 39 true (.mov (t 2)), G 41 39 true (.mov (t 0)), G 42 39 true (.mov (t 9)), G 43 39 true (.indexSl 2 (t 41) (t 42)), G 44 39 true (.load (some 2) (t 43)), G 45 39 true (.mov (t 1)), G 46 39 true (.call (t 40) [(t 44), (t 45)]), G 47 39 true (.bin .eql .none (t 46) (i 0)), L 48 (.pick (t 39) (t 47) (.const (.bool false))), J 6 35, J 7 48])
 (.ret)))))⟩
def f348 : LFunc := ⟨14, [1, 3, 2, 0, 5], [.tmp 5],
 .seq (r [K 3 (.box 2 (t 0) false), K 5 (.mov (i 0))])
 (.seq (r [L 6 (.load none (t 2)), L 7 (.nilCheck (t 6)), L 8 (.fieldAddr 0 (t 7)), L 9 (.load none (t 8)), L 10 (.fieldAddr 0 (t 3)), L 11 (.load none (t 10)), M 12 1, L 13 (.call (t 9) [(t 11), (t 12)]), J 5 13])
 (.ret))⟩
def f349 : LFunc := ⟨9, [1, 5, 0], [],
 .seq (r [M 4 0, K 5 (.bin .neq .func (t 4) (.const (.nilFunc)))])
 (.cond (t 5) (r [M 6 0, M 7 1, L 8 (.call (t 6) [(t 7)])]) (.skip))⟩
def f350 : LFunc := ⟨8, [0, 1, 3], [.tmp 3],
 .seq (r [K 3 (.mov (.const (.bool false)))])
 (.seq (r [L 4 (.load none (t 1)), M 5 0, L 6 (.buildSlice 1 1 [.pointer none] [(0, 1, (t 5))] false), L 7 (.append 1 8 (t 4) (t 6)), N (.store 1 (t 1) (t 7) false)])
 (.seq (r [K 3 (.mov (.const (.bool true)))])
 (.ret)))⟩
def f351 : LFunc := ⟨7, [2, 3, 1, 0], [],
 .seq (r [K 3 (.box 1 (t 0) false)])
 (r [L 4 (.load none (t 1)), L 5 (.makeFunc (.func 353) [] [(t 3), (t 2)]), L 6 (.call (.func 352) [(t 4), (t 5)])])⟩
def f352 : LFunc := ⟨9, [1, 5, 0], [],
 .seq (r [M 4 0, K 5 (.bin .neq .func (t 4) (.const (.nilFunc)))])
 (.cond (t 5) (r [M 6 0, M 7 1, L 8 (.call (t 6) [(t 7)])]) (.skip))⟩
def f353 : LFunc := ⟨10, [3, 2, 1, 0, 4], [.tmp 4],
 .seq (r [K 3 (.box 2 (t 0) false), K 4 (.mov (.const (.bool false)))])
 (.seq (.region [L 5 (.load none (t 1)), L 6 (.load none (t 2)), L 7 (.load (some 2) (t 3)), L 8 (.call (t 6) [(t 7)]), L 9 (.call (t 5) [(t 8)]), J 4 9] [(0, 3)])
 (.ret))⟩
def f354 : LFunc := ⟨4, [1, 0, 2], [.tmp 2],
 .seq (r [K 1 (.box 1 (t 0) false), K 2 (.mov (.const (.nilFunc)))])
 (.seq (r [L 3 (.makeFunc (.func 375) [] [(t 1)]), J 2 3])
 (.ret))⟩
def f357 : LFunc := ⟨16, [14, 4, 0, 5, 8, 6, 7, 1], [],
 .seq (r [K 5 (.load none (t 1)), K 6 (.len false (t 5)), K 7 (.mov (i 0))])
 (.block 0 (.loop [] (.seq (r [K 8 (.bin .lss .none (t 7) (t 6))])
 (.seq (.cond (t 8) (.skip) (.exit 0))
 (.seq (.block 1 (.seq (r [L 9 (.indexSl 2 (t 5) (t 7)), L 10 (.load (some 2) (t 9)), K 4 (.alloc 2 [.int .i64 0, .slice none 0 0]), N (.store 2 (t 4) (t 10) false)])
 (.seq (r [M 11 0, L 12 (.load (some 2) (t 4)), L 13 (.call (t 11) [(t 12)]), K 14 (.un .not (t 13))])
 (.cond (t 14) (.ret) (.skip)))))
 (r [L 15 (.bin .add .none (t 7) (i 1)), J 7 15]))))))⟩
def f358 : LFunc := ⟨53, [34, 0, 3, 9, 14, 2, 8, 1], [],
 .seq (r [M 10 1, L 11 (.bin .add .none (t 10) (i 1)), J 8 11])
 (.block 0 (.loop [] (.seq (.seq (r [M 12 8, M 13 2, K 14 (.bin .lss .none (t 12) (t 13))])
 (.cond (t 14) (.skip) (.exit 0)))
 (.seq (.block 1 (.seq (r [M 17 8, J 9 17])
 (.block 2 (.loop [] (.seq (.seq (r [M 18 9, M 19 1, L 20 (.bin .gtr .none (t 18) (t 19)), M 21 20, G 22 21 true (.mov (t 3)), G 23 21 true (.mov (t 0)), G 24 21 true (.mov (t 9)), G 25 21 true (.indexSl 2 (t 23) (t 24)), G 26 21 true (.load (some 2) (t 25)), G 27 21 true (.mov (t 0)), G 28 21 true (.mov (t 9)), G 29 21 true (.bin .sub .none (t 28) (i 1)), G 30 21 true (.indexSl 2 (t 27) (t 29)), G 31 21 true (.load (some 2) (t 30)), G 32 21 true (.call (t 22) [(t 26), (t 31)]), G 33 21 true (.bin .lss .none (t 32) (i 0)), K 34 (.pick (t 21) (t 33) (.const (.bool false)))])
 (.cond (t 34) (.skip) (.exit 2)))
 (.seq (.block 3 (r [M 37 0, M 38 9, M 39 0, M 40 9, L 41 (.bin .sub .none (t 40) (i 1)), M 42 0, M 43 9, L 44 (.bin .sub .none (t 43) (i 1)), L 45 (.indexSl 2 (t 42) (t 44)), L 46 (.load (some 2) (t 45)), M 47 0, M 48 9, L 49 (.indexSl 2 (t 47) (t 48)), L 50 (.load (some 2) (t 49)), L 51 (.indexSl 2 (t 37) (t 38)), N (.store 2 (t 51) (t 46) false), L 52 (.indexSl 2 (t 39) (t 41)), N (.store 2 (t 52) (t 50) false)]))
 (r [M 35 9, L 36 (.bin .sub .none (t 35) (i 1)), J 9 36])))))))
 (r [M 15 8, L 16 (.bin .add .none (t 15) (i 1)), J 8 16])))))⟩
def f360 : LFunc := ⟨60, [13, 43, 46, 44, 45, 37, 11, 7, 23, 26, 24, 25, 8, 1, 0, 15, 2, 6], [.tmp 6],
 .seq (r [K 6 (.mov (.const (.slice none 0 0)))])
 (.seq (.seq (r [M 14 2, K 15 (.bin .eql .none (t 14) (i 0))])
 (.cond (t 15) (.seq (r [K 6 (.mov (.const (.slice none 0 0)))])
 (.ret)) (.skip)))
 (.seq (r [K 7 (.mov (.const (.slice none 0 0)))])
 (.seq (r [M 17 0, M 18 1, L 19 (.call (.func 93) [(t 17), (t 18)]), M 16 19, L 20 (.extract (t 16) 0), L 21 (.extract (t 16) 1), ⟨(some 8), false, .alloc 4 [.string ⟨#[]⟩, .slice none 0 0, .string ⟨#[]⟩, .slice none 0 0], none⟩, N (.store 4 (t 8) (t 20) false), M 9 21])
 (.seq (.seq (r [L 22 (.fieldAddr 1 (t 8)), K 23 (.load none (t 22)), K 24 (.len false (t 23)), K 25 (.mov (i 0))])
 (.block 0 (.loop [] (.seq (r [K 26 (.bin .lss .none (t 25) (t 24))])
 (.seq (.cond (t 26) (.skip) (.exit 0))
 (.seq (.block 1 (.seq (r [L 27 (.indexSl 4 (t 23) (t 25)), L 28 (.load (some 4) (t 27)), ⟨(some 11), false, .alloc 4 [.string ⟨#[]⟩, .int .i64 0, .bool false, .string ⟨#[]⟩], none⟩, N (.store 4 (t 11) (t 28) false)])
 (.seq (r [M 29 7, L 30 (.fieldAddr 0 (t 11)), L 31 (.load none (t 30)), ⟨(some 32), true, .buildSlice 1 1 [.string ⟨#[]⟩] [(0, 1, (t 31))] false, none⟩, L 33 (.buildSlice 1 1 [.slice none 0 0] [(0, 1, (t 32))] false), L 34 (.append 1 24 (t 29) (t 33)), J 7 34])
 (.seq (.seq (r [L 35 (.fieldAddr 3 (t 11)), L 36 (.load none (t 35)), ⟨(some 37), false, .bin .eql .none (t 36) (.const (.string ⟨#[]⟩)), none⟩])
 (.cond (t 37) (.exit 1) (.skip)))
 (.seq (r [M 38 0, L 39 (.fieldAddr 3 (t 11)), L 40 (.load none (t 39)), M 41 2, L 42 (.bin .sub .none (t 41) (i 1)), K 43 (.call (.func 360) [(t 38), (t 40), (t 42)]), K 44 (.len false (t 43)), K 45 (.mov (i 0))])
 (.block 2 (.loop [] (.seq (r [K 46 (.bin .lss .none (t 45) (t 44))])
 (.seq (.cond (t 46) (.skip) (.exit 2))
 (.seq (.block 3 (.seq (r [L 47 (.indexSl 1 (t 43) (t 45)), L 48 (.load none (t 47)), J 13 48])
 (r [M 49 7, L 50 (.fieldAddr 0 (t 11)), L 51 (.load none (t 50)), ⟨(some 52), true, .buildSlice 1 1 [.string ⟨#[]⟩] [(0, 1, (t 51))] false, none⟩, M 53 13, L 54 (.append 1 16 (t 52) (t 53)), L 55 (.buildSlice 1 1 [.slice none 0 0] [(0, 1, (t 54))] false), L 56 (.append 1 24 (t 49) (t 55)), J 7 56])))
 (r [L 57 (.bin .add .none (t 45) (i 1)), J 45 57])))))))))))
 (r [L 58 (.bin .add .none (t 25) (i 1)), J 25 58])))))))
 (.seq (r [M 59 7, J 6 59])
 (.ret))))))⟩
def f361 : LFunc := ⟨14, [1, 4, 0], [],
 .seq (r [M 5 0, L 6 (.len false (t 5)), J 4 6])
 (r [M 7 0, M 8 4, M 9 4, L 10 (.conv (.int .u64) (t 9)), L 11 (.call (.func 207) [(t 10)]), M 12 1, L 13 (.call (.func 378) [(t 7), (i 0), (t 8), (t 11), (t 12)])])⟩
def f362 : LFunc := ⟨99, [10, 7, 8, 5, 6, 4, 3, 2, 13, 1, 0], [.tmp 0],
 .seq (r [K 0 (.mov (.const (.bool false)))])
 (.seq (r [L 11 (.call (.func 23) []), J 1 11])
 (.seq (.seq (r [M 12 1, K 13 (.bin .eql .ptr (t 12) (.const (.pointer none)))])
 (.cond (t 13) (.seq (r [K 0 (.mov (.const (.bool false)))])
 (.ret)) (.skip)))
 (.seq (r [M 14 1, ⟨(some 15), true, .build [.string ⟨#[]⟩, .int .i64 0, .bool false, .string ⟨#[]⟩] [(0, 1, (.const (.string ⟨#[105, 100]⟩))), (1, 1, (i 1))], none⟩, ⟨(some 16), true, .build [.string ⟨#[]⟩, .int .i64 0, .bool false, .string ⟨#[]⟩] [(0, 1, (.const (.string ⟨#[99, 105, 116, 121]⟩))), (1, 1, (i 2))], none⟩, ⟨(some 17), true, .buildSlice 4 2 [.string ⟨#[]⟩, .int .i64 0, .bool false, .string ⟨#[]⟩] [(0, 4, (t 15)), (4, 4, (t 16))] false, none⟩, ⟨(some 18), true, .build [.string ⟨#[]⟩, .slice none 0 0, .string ⟨#[]⟩, .slice none 0 0] [(0, 1, (.const (.string ⟨#[115, 104, 111, 112]⟩))), (1, 1, (t 17)), (2, 1, (.const (.string ⟨#[105, 100]⟩)))], none⟩, L 19 (.call (.func 105) [(t 14), (t 18)]), J 2 19])
 (.seq (r [M 20 1, ⟨(some 21), true, .build [.string ⟨#[]⟩, .int .i64 0, .bool false, .string ⟨#[]⟩] [(0, 1, (.const (.string ⟨#[115, 104, 111, 112]⟩))), (1, 1, (i 1)), (3, 1, (.const (.string ⟨#[115, 104, 111, 112]⟩)))], none⟩, ⟨(some 22), true, .build [.string ⟨#[]⟩, .int .i64 0, .bool false, .string ⟨#[]⟩] [(0, 1, (.const (.string ⟨#[110]⟩))), (1, 1, (i 1))], none⟩, ⟨(some 23), true, .buildSlice 4 2 [.string ⟨#[]⟩, .int .i64 0, .bool false, .string ⟨#[]⟩] [(0, 4, (t 21)), (4, 4, (t 22))] false, none⟩, ⟨(some 24), true, .build [.string ⟨#[]⟩, .slice none 0 0, .string ⟨#[]⟩, .slice none 0 0] [(0, 1, (.const (.string ⟨#[115, 97, 108, 101]⟩))), (1, 1, (t 23))], none⟩, L 25 (.call (.func 105) [(t 20), (t 24)]), J 3 25])
 (.seq (r [M 26 1, ⟨(some 27), true, .build [.string ⟨#[]⟩, .int .i64 0, .bool false, .string ⟨#[]⟩] [(0, 1, (.const (.string ⟨#[120]⟩))), (1, 1, (i 2)), (3, 1, (.const (.string ⟨#[115, 104, 111, 112]⟩)))], none⟩, ⟨(some 28), true, .buildSlice 4 1 [.string ⟨#[]⟩, .int .i64 0, .bool false, .string ⟨#[]⟩] [(0, 4, (t 27))] false, none⟩, ⟨(some 29), true, .build [.string ⟨#[]⟩, .slice none 0 0, .string ⟨#[]⟩, .slice none 0 0] [(0, 1, (.const (.string ⟨#[98, 97, 100]⟩))), (1, 1, (t 28))], none⟩, L 30 (.call (.func 105) [(t 26), (t 29)]), J 4 30])
 (.seq (r [M 32 1, ⟨(some 33), true, .call (.func 93) [(t 32), (.const (.string ⟨#[115, 104, 111, 112]⟩))], none⟩, M 31 33, L 34 (.extract (t 31) 0), L 35 (.extract (t 31) 1), ⟨(some 5), false, .alloc 4 [.string ⟨#[]⟩, .slice none 0 0, .string ⟨#[]⟩, .slice none 0 0], none⟩, N (.store 4 (t 5) (t 34) false), J 6 35])
 (.seq (r [M 37 1, ⟨(some 38), true, .call (.func 47) [(t 37), (.const (.string ⟨#[115, 97, 108, 101]⟩)), (.const (.string ⟨#[115, 104, 111, 112]⟩))], none⟩, M 36 38, L 39 (.extract (t 36) 0), L 40 (.extract (t 36) 1), ⟨(some 7), false, .alloc 4 [.string ⟨#[]⟩, .int .i64 0, .bool false, .string ⟨#[]⟩], none⟩, N (.store 4 (t 7) (t 39) false), J 8 40])
 (.seq (r [M 42 1, ⟨(some 43), true, .call (.func 93) [(t 42), (.const (.string ⟨#[98, 97, 100]⟩))], none⟩, M 41 43, L 44 (.extract (t 41) 0), L 45 (.extract (t 41) 1), ⟨(some 9), true, .alloc 4 [.string ⟨#[]⟩, .slice none 0 0, .string ⟨#[]⟩, .slice none 0 0], none⟩, N (.store 4 (t 9) (t 44) false), J 10 45])
 (.seq (r [M 46 2, L 47 (.bin .eql .none (t 46) (i 0)), M 48 47, G 49 48 true (.mov (t 3)), G 50 48 true (.bin .eql .none (t 49) (i 0)), L 51 (.pick (t 48) (t 50) (.const (.bool false))), M 52 51, G 53 52 true (.mov (t 4)), G 54 52 true (.bin .eql .none (t 53) (i 4)), L 55 (.pick (t 52) (t 54) (.const (.bool false))), M 56 55, G 57 56 true (.mov (t 6)), L 58 (.pick (t 56) (t 57) (.const (.bool false))), M 59 58, G 60 59 true (.fieldAddr 1 (t 5)), G 61 59 true (.load none (t 60)), G 62 59 true (.indexSl 4 (t 61) (i 0)), G 63 59 true (.fieldAddr 2 (t 62)), G 64 59 true (.load none (t 63)), L 65 (.pick (t 59) (t 64) (.const (.bool false))), M 66 65, G 67 66 true (.fieldAddr 1 (t 5)), G 68 66 true (.load none (t 67)), G 69 66 true (.indexSl 4 (t 68) (i 1)), G 70 66 true (.fieldAddr 2 (t 69)), G 71 66 true (.load none (t 70)), G 72 66 true (.un .not (t 71)), L 73 (.pick (t 66) (t 72) (.const (.bool false))), M 74 73, G 75 74 true (.mov (t 8)), L 76 (.pick (t 74) (t 75) (.const (.bool false))), M 77 76, G 78 77 true (.fieldAddr 3 (t 7)), G 79 77 true (.load none (t 78)), ⟨(some 80), true, .bin .eql .none (t 79) (.const (.string ⟨#[115, 104, 111, 112]⟩)), (some (77, true))⟩, L 81 (.pick (t 77) (t 80) (.const (.bool false))), M 82 81, G 83 82 true (.mov (t 10)), G 84 82 true (.un .not (t 83)), L 85 (.pick (t 82) (t 84) (.const (.bool false))), M 86 85, G 87 86 true (.mov (t 1)), G 88 86 true (.call (.func 379) [(t 87)]), G 89 86 true (.len false (t 88)), G 90 86 true (.bin .eql .none (t 89) (i 2)), L 91 (.pick (t 86) (t 90) (.const (.bool false))), M 92 91, G 93 92 true (.mov (t 1)), G 94 92 true (.call (.func 379) [(t 93)]), G 95 92 true (.indexSl 1 (t 94) (i 1)), G 96 92 true (.load none (t 95)), ⟨(some 97), true, .bin .eql .none (t 96) (.const (.string ⟨#[115, 97, 108, 101]⟩)), (some (92, true))⟩, L 98 (.pick (t 92) (t 97) (.const (.bool false))), J 0 98])
 (.ret))))))))))⟩
def f363 : LFunc := ⟨75, [10, 63, 66, 64, 65, 8, 49, 7, 39, 42, 40, 41, 5, 29, 22, 1, 15, 13, 12, 0, 4], [.tmp 4],
 .seq (r [⟨(some 4), false, .mov (.const (.string ⟨#[]⟩)), none⟩])
 (.seq (.seq (r [M 11 0, K 12 (.len false (t 11))])
 (.block 0 (.seq (r [L 14 (.bin .eql .none (t 12) (i 0)), J 13 14])
 (.cond (t 13) (.seq (r [⟨(some 4), false, .mov (.const (.string ⟨#[]⟩)), none⟩])
 (.ret)) (.seq (r [L 16 (.bin .eql .none (t 12) (i 1)), J 15 16])
 (.cond (t 15) (.seq (r [M 17 0, L 18 (.indexSl 1 (t 17) (i 0)), L 19 (.load none (t 18)), J 4 19])
 (.ret)) (.skip)))))))
 (.seq (r [K 5 (.mov (i 0))])
 (.seq (.seq (r [M 20 1, L 21 (.len true (t 20)), K 22 (.bin .gtr .none (t 21) (i 0))])
 (.cond (t 22) (.seq (.seq (r [M 23 1, L 24 (.len true (t 23)), M 25 0, L 26 (.len false (t 25)), L 27 (.bin .sub .none (t 26) (i 1)), L 28 (.bin .quo .none (i 9223372036854775807) (t 27)), K 29 (.bin .geq .none (t 24) (t 28))])
 (.cond (t 29) (r [⟨(some 30), true, .makeIface 9 (.const (.string ⟨#[115, 116, 114, 105, 110, 103, 115, 58, 32, 74, 111, 105, 110, 32, 111, 117, 116, 112, 117, 116, 32, 108, 101, 110, 103, 116, 104, 32, 111, 118, 101, 114, 102, 108, 111, 119]⟩)), none⟩, N (.panic)]) (.skip)))
 (r [M 31 5, M 32 1, L 33 (.len true (t 32)), M 34 0, L 35 (.len false (t 34)), L 36 (.bin .sub .none (t 35) (i 1)), L 37 (.bin .mul .none (t 33) (t 36)), L 38 (.bin .add .none (t 31) (t 37)), J 5 38])) (.skip)))
 (.seq (.seq (r [J 39 0, K 40 (.len false (t 39)), K 41 (.mov (i 0))])
 (.block 1 (.loop [] (.seq (r [K 42 (.bin .lss .none (t 41) (t 40))])
 (.seq (.cond (t 42) (.skip) (.exit 1))
 (.seq (.block 2 (.seq (r [L 43 (.indexSl 1 (t 39) (t 41)), L 44 (.load none (t 43)), J 7 44])
 (.seq (.seq (r [M 45 7, L 46 (.len true (t 45)), M 47 5, L 48 (.bin .sub .none (i 9223372036854775807) (t 47)), K 49 (.bin .gtr .none (t 46) (t 48))])
 (.cond (t 49) (r [⟨(some 50), true, .makeIface 9 (.const (.string ⟨#[115, 116, 114, 105, 110, 103, 115, 58, 32, 74, 111, 105, 110, 32, 111, 117, 116, 112, 117, 116, 32, 108, 101, 110, 103, 116, 104, 32, 111, 118, 101, 114, 102, 108, 111, 119]⟩)), none⟩, N (.panic)]) (.skip)))
 (r [M 51 5, M 52 7, L 53 (.len true (t 52)), L 54 (.bin .add .none (t 51) (t 53)), J 5 54]))))
 (r [L 55 (.bin .add .none (t 41) (i 1)), J 41 55])))))))
 (.seq (r [K 8 (.alloc 2 [.pointer none, .slice none 0 0])])
 (.seq (r [M 56 5, L 57 (.call (.func 380) [(t 8), (t 56)])])
 (.seq (r [M 58 0, L 59 (.indexSl 1 (t 58) (i 0)), L 60 (.load none (t 59)), L 61 (.call (.func 381) [(t 8), (t 60)])])
 (.seq (.seq (r [M 62 0, K 63 (.sliceSl 1 (t 62) (some (i 1)) none none), K 64 (.len false (t 63)), K 65 (.mov (i 0))])
 (.block 3 (.loop [] (.seq (r [K 66 (.bin .lss .none (t 65) (t 64))])
 (.seq (.cond (t 66) (.skip) (.exit 3))
 (.seq (.block 4 (.seq (r [L 67 (.indexSl 1 (t 63) (t 65)), L 68 (.load none (t 67)), J 10 68])
 (.seq (r [M 69 1, L 70 (.call (.func 381) [(t 8), (t 69)])])
 (r [M 71 10, L 72 (.call (.func 381) [(t 8), (t 71)])]))))
 (r [L 73 (.bin .add .none (t 65) (i 1)), J 65 73])))))))
 (.seq (r [L 74 (.call (.func 382) [(t 8)]), J 4 74])
 (.ret))))))))))⟩
def f364 : LFunc := ⟨6, [0, 2], [.tmp 2],
 .seq (r [K 2 (.mov (.const (.pointer none)))])
 (.seq (r [M 3 0, L 4 (.build [.nilFunc, .slice none 0 0] [(0, 1, (t 3))]), L 5 (.box 2 (t 4) false), J 2 5])
 (.ret))⟩
def f365 : LFunc := ⟨26, [6, 8, 16, 7, 3, 0, 1, 4, 5], [.tmp 4, .tmp 5],
 .seq (r [K 3 (.box 3 (t 1) false), K 4 (.mov (.const (.slice none 0 0))), K 5 (.mov (.const (.bool false)))])
 (.seq (r [M 10 0, L 11 (.load (some 3) (t 3)), L 12 (.call (.func 383) [(t 10), (t 11)]), M 9 12, L 13 (.extract (t 9) 0), L 14 (.extract (t 9) 1), J 6 13, J 7 14])
 (.seq (.seq (r [M 15 7, K 16 (.un .not (t 15))])
 (.cond (t 16) (.seq (r [K 8 (.mov (.const (.slice none 0 0)))])
 (.seq (r [M 17 8, J 4 17, K 5 (.mov (.const (.bool false)))])
 (.ret))) (.skip)))
 (.seq (r [M 18 0, L 19 (.nilCheck (t 18)), L 20 (.fieldAddr 1 (t 19)), L 21 (.load none (t 20)), M 22 6, L 23 (.indexSl 4 (t 21) (t 22)), L 24 (.fieldAddr 3 (t 23)), L 25 (.load none (t 24)), J 4 25, K 5 (.mov (.const (.bool true)))])
 (.ret))))⟩
def f366 : LFunc := ⟨48, [25, 2, 7, 15, 8, 4, 0, 1, 6], [.tmp 6],
 .seq (r [K 4 (.box 3 (t 1) false), K 6 (.mov (.const (.bool false)))])
 (.seq (r [M 10 0, L 11 (.load (some 3) (t 4)), L 12 (.call (.func 383) [(t 10), (t 11)]), M 9 12, L 13 (.extract (t 9) 0), L 14 (.extract (t 9) 1), J 7 13, J 8 14])
 (.seq (.block 0 (.seq (r [M 16 8, J 15 16])
 (.cond (t 15) (.seq (r [M 17 0, L 18 (.nilCheck (t 17)), L 19 (.fieldAddr 1 (t 18)), L 20 (.load none (t 19)), M 21 7, M 22 2, L 23 (.indexSl 4 (t 20) (t 21)), L 24 (.fieldAddr 3 (t 23)), N (.store 1 (t 24) (t 22) false)])
 (.seq (r [K 6 (.mov (.const (.bool false)))])
 (.ret))) (.seq (r [M 26 0, L 27 (.bin .eql .ptr (t 26) (.const (.pointer none))), M 28 27, G 29 28 false (.mov (t 0)), G 30 28 false (.nilCheck (t 29)), G 31 28 false (.fieldAddr 0 (t 30)), G 32 28 false (.load none (t 31)), G 33 28 false (.bin .eql .func (t 32) (.const (.nilFunc))), L 34 (.pick (t 28) (.const (.bool true)) (t 33)), J 25 34])
 (.cond (t 25) (.seq (r [K 6 (.mov (.const (.bool false)))])
 (.ret)) (.skip))))))
 (.seq (r [M 35 0, M 36 0, L 37 (.nilCheck (t 36)), L 38 (.fieldAddr 1 (t 37)), L 39 (.load none (t 38)), M 40 7, L 41 (.load (some 3) (t 4)), M 42 2, ⟨(some 43), true, .build [.int .i64 0, .int .i64 0, .string ⟨#[]⟩, .slice none 0 0] [(0, 3, (t 41)), (3, 1, (t 42))], none⟩, ⟨(some 44), true, .buildSlice 4 1 [.int .i64 0, .int .i64 0, .string ⟨#[]⟩, .slice none 0 0] [(0, 4, (t 43))] false, none⟩, L 45 (.call (.func 384) [(t 39), (t 40), (t 44)]), L 46 (.nilCheck (t 35)), L 47 (.fieldAddr 1 (t 46)), N (.store 1 (t 47) (t 45) false)])
 (.seq (r [K 6 (.mov (.const (.bool true)))])
 (.ret)))))⟩
def f367 : LFunc := ⟨6, [0, 2], [.tmp 2],
 .seq (r [K 2 (.mov (.const (.pointer none)))])
 (.seq (r [M 3 0, L 4 (.build [.nilFunc, .slice none 0 0] [(0, 1, (t 3))]), L 5 (.box 2 (t 4) false), J 2 5])
 (.ret))⟩
def f368 : LFunc := ⟨4, [1, 0, 2], [.tmp 2],
 .seq (r [K 1 (.box 1 (t 0) false), K 2 (.mov (.const (.nilFunc)))])
 (.seq (r [L 3 (.makeFunc (.func 385) [] [(t 1)]), J 2 3])
 (.ret))⟩
def f369 : LFunc := ⟨48, [25, 5, 7, 15, 8, 4, 0, 2, 1, 6], [.tmp 6],
 .seq (r [K 4 (.box 3 (t 1) false), K 5 (.box 1 (t 2) false), K 6 (.mov (.const (.bool false)))])
 (.seq (r [M 10 0, L 11 (.load (some 3) (t 4)), L 12 (.call (.func 374) [(t 10), (t 11)]), M 9 12, L 13 (.extract (t 9) 0), L 14 (.extract (t 9) 1), J 7 13, J 8 14])
 (.seq (.block 0 (.seq (r [M 16 8, J 15 16])
 (.cond (t 15) (.seq (r [M 17 0, L 18 (.nilCheck (t 17)), L 19 (.fieldAddr 1 (t 18)), L 20 (.load none (t 19)), M 21 7, L 22 (.load (some 1) (t 5)), L 23 (.indexSl 4 (t 20) (t 21)), L 24 (.fieldAddr 3 (t 23)), N (.store 1 (t 24) (t 22) false)])
 (.seq (r [K 6 (.mov (.const (.bool false)))])
 (.ret))) (.seq (r [M 26 0, L 27 (.bin .eql .ptr (t 26) (.const (.pointer none))), M 28 27, G 29 28 false (.mov (t 0)), G 30 28 false (.nilCheck (t 29)), G 31 28 false (.fieldAddr 0 (t 30)), G 32 28 false (.load none (t 31)), G 33 28 false (.bin .eql .func (t 32) (.const (.nilFunc))), L 34 (.pick (t 28) (.const (.bool true)) (t 33)), J 25 34])
 (.cond (t 25) (.seq (r [K 6 (.mov (.const (.bool false)))])
 (.ret)) (.skip))))))
 (.seq (r [M 35 0, M 36 0, L 37 (.nilCheck (t 36)), L 38 (.fieldAddr 1 (t 37)), L 39 (.load none (t 38)), M 40 7, L 41 (.load (some 3) (t 4)), L 42 (.load (some 1) (t 5)), ⟨(some 43), true, .build [.int .i64 0, .int .i64 0, .string ⟨#[]⟩, .slice none 0 0] [(0, 3, (t 41)), (3, 1, (t 42))], none⟩, ⟨(some 44), true, .buildSlice 4 1 [.int .i64 0, .int .i64 0, .string ⟨#[]⟩, .slice none 0 0] [(0, 4, (t 43))] false, none⟩, L 45 (.call (.func 387) [(t 39), (t 40), (t 44)]), L 46 (.nilCheck (t 35)), L 47 (.fieldAddr 1 (t 46)), N (.store 1 (t 47) (t 45) false)])
 (.seq (r [K 6 (.mov (.const (.bool true)))])
 (.ret)))))⟩
def f370 : LFunc := ⟨106, [9, 7, 5, 6, 53, 4, 3, 20, 1, 0], [.tmp 0],
 .seq (r [K 0 (.mov (.const (.bool false)))])
 (.seq (r [L 11 (.call (.func 25) []), M 10 11, L 12 (.extract (t 10) 0), L 13 (.extract (t 10) 1), J 1 12, M 2 13])
 (.seq (.seq (r [M 14 1, L 15 (.bin .eql .ptr (t 14) (.const (.pointer none))), M 16 15, G 17 16 false (.mov (t 1)), ⟨(some 18), true, .call (.func 12) [(t 17), (.const (.string ⟨#[108, 97, 110, 100]⟩))], (some (16, false))⟩, G 19 16 false (.bin .eql .ptr (t 18) (.const (.pointer none))), K 20 (.pick (t 16) (.const (.bool true)) (t 19))])
 (.cond (t 20) (.seq (r [K 0 (.mov (.const (.bool false)))])
 (.ret)) (.skip)))
 (.seq (r [L 21 (.call (.func 388) [(i 1)]), ⟨(some 22), true, .call (.func 389) [(.const (.string ⟨#[120]⟩))], none⟩, ⟨(some 23), true, .build [.int .i64 0, .int .i64 0, .string ⟨#[]⟩] [], none⟩, L 24 (.call (.func 388) [(i 9)]), ⟨(some 25), true, .buildSlice 3 4 [.int .i64 0, .int .i64 0, .string ⟨#[]⟩] [(0, 3, (t 21)), (3, 3, (t 22)), (6, 3, (t 23)), (9, 3, (t 24))] false, none⟩, ⟨(some 26), true, .build [.int .i64 0, .string ⟨#[]⟩, .int .i64 0, .string ⟨#[]⟩, .slice none 0 0] [(0, 1, (i 1)), (1, 1, (.const (.string ⟨#[115, 104, 111, 112]⟩))), (4, 1, (t 25))], none⟩, L 27 (.call (.func 388) [(i 9)]), ⟨(some 28), true, .build [.int .i64 0, .int .i64 0, .string ⟨#[]⟩] [], none⟩, ⟨(some 29), true, .buildSlice 3 2 [.int .i64 0, .int .i64 0, .string ⟨#[]⟩] [(0, 3, (t 27)), (3, 3, (t 28))] false, none⟩, ⟨(some 30), true, .build [.int .i64 0, .string ⟨#[]⟩, .int .i64 0, .string ⟨#[]⟩, .slice none 0 0] [(0, 1, (i 1)), (1, 1, (.const (.string ⟨#[108, 97, 110, 100]⟩))), (4, 1, (t 29))], none⟩, ⟨(some 31), true, .buildSlice 5 2 [.int .i64 0, .string ⟨#[]⟩, .int .i64 0, .string ⟨#[]⟩, .slice none 0 0] [(0, 5, (t 26)), (5, 5, (t 30))] false, none⟩, J 3 31])
 (.seq (r [M 33 1, M 34 3, L 35 (.call (.func 390) [(t 33), (t 34)]), M 32 35, L 36 (.extract (t 32) 0), L 37 (.extract (t 32) 1), L 38 (.extract (t 32) 2), ⟨(some 6), false, .alloc 5 [.int .i64 0, .int .i64 0, .string ⟨#[]⟩, .int .i64 0, .string ⟨#[]⟩], none⟩, J 4 36, J 5 37, N (.store 5 (t 6) (t 38) false)])
 (.seq (r [M 40 1, M 41 3, L 42 (.sliceSl 5 (t 41) none (some (i 1)) none), L 43 (.call (.func 390) [(t 40), (t 42)]), M 39 43, L 44 (.extract (t 39) 0), L 45 (.extract (t 39) 1), L 46 (.extract (t 39) 2), ⟨(some 9), false, .alloc 5 [.int .i64 0, .int .i64 0, .string ⟨#[]⟩, .int .i64 0, .string ⟨#[]⟩], none⟩, J 7 44, M 8 45, N (.store 5 (t 9) (t 46) false)])
 (.seq (.seq (r [M 47 4, L 48 (.bin .eql .ptr (t 47) (.const (.pointer none))), M 49 48, G 50 49 false (.mov (t 4)), ⟨(some 51), true, .call (.func 12) [(t 50), (.const (.string ⟨#[115, 104, 111, 112]⟩))], (some (49, false))⟩, G 52 49 false (.bin .eql .ptr (t 51) (.const (.pointer none))), K 53 (.pick (t 49) (.const (.bool true)) (t 52))])
 (.cond (t 53) (.seq (r [K 0 (.mov (.const (.bool false)))])
 (.ret)) (.skip)))
 (.seq (r [L 54 (.call (.func 391) []), M 55 54, G 56 55 true (.call (.func 392) []), L 57 (.pick (t 55) (t 56) (.const (.bool false))), M 58 57, G 59 58 true (.fieldAddr 0 (t 6)), G 60 58 true (.load none (t 59)), G 61 58 true (.bin .eql .none (t 60) (i 0)), L 62 (.pick (t 58) (t 61) (.const (.bool false))), M 63 62, G 64 63 true (.mov (t 5)), G 65 63 true (.len false (t 64)), G 66 63 true (.bin .eql .none (t 65) (i 2)), L 67 (.pick (t 63) (t 66) (.const (.bool false))), M 68 67, G 69 68 true (.mov (t 7)), G 70 68 true (.bin .eql .ptr (t 69) (.const (.pointer none))), L 71 (.pick (t 68) (t 70) (.const (.bool false))), M 72 71, G 73 72 true (.fieldAddr 0 (t 9)), G 74 72 true (.load none (t 73)), G 75 72 true (.bin .eql .none (t 74) (i 9)), L 76 (.pick (t 72) (t 75) (.const (.bool false))), M 77 76, G 78 77 true (.fieldAddr 1 (t 9)), G 79 77 true (.load none (t 78)), G 80 77 true (.bin .eql .none (t 79) (i 1)), L 81 (.pick (t 77) (t 80) (.const (.bool false))), M 82 81, G 83 82 true (.fieldAddr 2 (t 9)), G 84 82 true (.load none (t 83)), ⟨(some 85), true, .bin .eql .none (t 84) (.const (.string ⟨#[115, 104, 111, 112]⟩)), (some (82, true))⟩, L 86 (.pick (t 82) (t 85) (.const (.bool false))), M 87 86, G 88 87 true (.fieldAddr 4 (t 9)), G 89 87 true (.load none (t 88)), ⟨(some 90), true, .bin .eql .none (t 89) (.const (.string ⟨#[108, 97, 110, 100]⟩)), (some (87, true))⟩, L 91 (.pick (t 87) (t 90) (.const (.bool false))), M 92 91, G 93 92 true (.mov (t 1)), ⟨(some 94), true, .call (.func 12) [(t 93), (.const (.string ⟨#[115, 104, 111, 112]⟩))], (some (92, true))⟩, G 95 92 true (.call (.func 13) [(t 94)]), G 96 92 true (.call (.func 233) [(t 95)]), G 97 92 true (.bin .eql .none (t 96) (i 0)), L 98 (.pick (t 92) (t 97) (.const (.bool false))), M 99 98, G 100 99 true (.mov (t 4)), ⟨(some 101), true, .call (.func 12) [(t 100), (.const (.string ⟨#[115, 104, 111, 112]⟩))], (some (99, true))⟩, G 102 99 true (.call (.func 13) [(t 101)]), G 103 99 true (.call (.func 233) [(t 102)]), G 104 99 true (.bin .eql .none (t 103) (i 1)), L 105 (.pick (t 99) (t 104) (.const (.bool false))), J 0 105])
 (.ret))))))))⟩
def f372 : LFunc := ⟨29, [28, 0, 7, 1, 3], [],
 .seq (r [K 3 (.mov (i 0))])
 (.block 0 (.loop [] (.seq (.seq (r [M 4 3, L 5 (.load none (t 1)), L 6 (.call (.func 373) [(t 5)]), K 7 (.bin .lss .none (t 4) (t 6))])
 (.cond (t 7) (.skip) (.exit 0)))
 (.seq (.block 1 (.seq (r [M 10 0, L 11 (.load none (t 1)), L 12 (.nilCheck (t 11)), L 13 (.fieldAddr 1 (t 12)), L 14 (.load none (t 13)), M 15 3, L 16 (.indexSl 4 (t 14) (t 15)), L 17 (.fieldAddr 0 (t 16)), L 18 (.load (some 3) (t 17)), L 19 (.load none (t 1)), L 20 (.nilCheck (t 19)), L 21 (.fieldAddr 1 (t 20)), L 22 (.load none (t 21)), M 23 3, L 24 (.indexSl 4 (t 22) (t 23)), L 25 (.fieldAddr 3 (t 24)), L 26 (.load (some 1) (t 25)), L 27 (.call (t 10) [(t 18), (t 26)]), K 28 (.un .not (t 27))])
 (.cond (t 28) (.ret) (.skip))))
 (r [M 8 3, L 9 (.bin .add .none (t 8) (i 1)), J 3 9])))))⟩
def f373 : LFunc := ⟨10, [4, 0, 2], [.tmp 2],
 .seq (r [K 2 (.mov (i 0))])
 (.seq (.seq (r [M 3 0, K 4 (.bin .eql .ptr (t 3) (.const (.pointer none)))])
 (.cond (t 4) (.seq (r [K 2 (.mov (i 0))])
 (.ret)) (.skip)))
 (.seq (r [M 5 0, L 6 (.nilCheck (t 5)), L 7 (.fieldAddr 1 (t 6)), L 8 (.load none (t 7)), L 9 (.len false (t 8)), J 2 9])
 (.ret)))⟩
def f374 : LFunc := ⟨24, [3, 14, 2, 1, 0, 4, 5], [.tmp 4, .tmp 5],
 .seq (r [K 2 (.box 1 (t 0) false), K 3 (.box 3 (t 1) false), K 4 (.mov (i 0)), K 5 (.mov (.const (.bool false)))])
 (.seq (.seq (r [L 6 (.load none (t 2)), L 7 (.bin .eql .ptr (t 6) (.const (.pointer none))), M 8 7, G 9 8 false (.load none (t 2)), G 10 8 false (.nilCheck (t 9)), G 11 8 false (.fieldAddr 0 (t 10)), G 12 8 false (.load none (t 11)), G 13 8 false (.bin .eql .func (t 12) (.const (.nilFunc))), K 14 (.pick (t 8) (.const (.bool true)) (t 13))])
 (.cond (t 14) (.seq (r [K 4 (.mov (i 0)), K 5 (.mov (.const (.bool false)))])
 (.ret)) (.skip)))
 (.seq (r [L 15 (.load none (t 2)), L 16 (.nilCheck (t 15)), L 17 (.fieldAddr 1 (t 16)), L 18 (.load none (t 17)), L 19 (.load (some 3) (t 3)), L 20 (.makeFunc (.func 394) [] [(t 2)]), L 21 (.call (.func 393) [(t 18), (t 19), (t 20)]), L 22 (.extract (t 21) 0), L 23 (.extract (t 21) 1), J 4 22, J 5 23])
 (.ret)))⟩
def f375 : LFunc := ⟨16, [14, 4, 0, 5, 8, 6, 7, 1], [],
 .seq (r [K 5 (.load none (t 1)), K 6 (.len false (t 5)), K 7 (.mov (i 0))])
 (.block 0 (.loop [] (.seq (r [K 8 (.bin .lss .none (t 7) (t 6))])
 (.seq (.cond (t 8) (.skip) (.exit 0))
 (.seq (.block 1 (.seq (r [L 9 (.indexSl 2 (t 5) (t 7)), L 10 (.load (some 2) (t 9)), K 4 (.alloc 2 [.int .i64 0, .slice none 0 0]), N (.store 2 (t 4) (t 10) false)])
 (.seq (r [M 11 0, L 12 (.load (some 2) (t 4)), L 13 (.call (t 11) [(t 12)]), K 14 (.un .not (t 13))])
 (.cond (t 14) (.ret) (.skip)))))
 (r [L 15 (.bin .add .none (t 7) (i 1)), J 7 15]))))))⟩
def f378 : LFunc := ⟨148, [20, 125, 19, 18, 16, 17, 15, 97, 80, 75, 11, 13, 56, 14, 39, 10, 32, 3, 4, 0, 25, 12, 1, 2], [],
 .seq (r [K 10 (.mov (.const (.bool true)))])
 (.seq (r [K 11 (.mov (.const (.bool true)))])
 (.block 0 (.loop [] (.block 1 (.seq (r [M 21 2, M 22 1, L 23 (.bin .sub .none (t 21) (t 22)), J 12 23])
 (.seq (.seq (r [M 24 12, K 25 (.bin .leq .none (t 24) (i 12))])
 (.cond (t 25) (.seq (r [M 26 0, M 27 1, M 28 2, M 29 4, L 30 (.call (.func 397) [(t 26), (t 27), (t 28), (t 29)])])
 (.ret)) (.skip)))
 (.seq (.seq (r [M 31 3, K 32 (.bin .eql .none (t 31) (i 0))])
 (.cond (t 32) (.seq (r [M 33 0, M 34 1, M 35 2, M 36 4, L 37 (.call (.func 398) [(t 33), (t 34), (t 35), (t 36)])])
 (.ret)) (.skip)))
 (.seq (.seq (r [M 38 10, K 39 (.un .not (t 38))])
 (.cond (t 39) (.seq (r [M 40 0, M 41 1, M 42 2, M 43 4, L 44 (.call (.func 399) [(t 40), (t 41), (t 42), (t 43)])])
 (r [M 45 3, L 46 (.bin .sub .none (t 45) (i 1)), J 3 46])) (.skip)))
 (.seq (r [M 48 0, M 49 1, M 50 2, M 51 4, L 52 (.call (.func 400) [(t 48), (t 49), (t 50), (t 51)]), M 47 52, L 53 (.extract (t 47) 0), L 54 (.extract (t 47) 1), J 13 53, J 14 54])
 (.seq (.seq (r [M 55 14, K 56 (.bin .eql .none (t 55) (i 2))])
 (.cond (t 56) (.seq (r [M 57 0, M 58 1, M 59 2, M 60 4, L 61 (.call (.func 401) [(t 57), (t 58), (t 59), (t 60)])])
 (.seq (r [M 62 2, L 63 (.bin .sub .none (t 62) (i 1)), M 64 13, M 65 1, L 66 (.bin .sub .none (t 64) (t 65)), L 67 (.bin .sub .none (t 63) (t 66)), J 13 67])
 (r [K 14 (.mov (i 1))]))) (.skip)))
 (.seq (.seq (r [M 68 10, M 69 68, G 70 69 true (.mov (t 11)), L 71 (.pick (t 69) (t 70) (.const (.bool false))), M 72 71, G 73 72 true (.mov (t 14)), G 74 72 true (.bin .eql .none (t 73) (i 1)), K 75 (.pick (t 72) (t 74) (.const (.bool false)))])
 (.cond (t 75) (.seq (r [M 76 0, M 77 1, M 78 2, M 79 4, K 80 (.call (.func 402) [(t 76), (t 77), (t 78), (t 79)])])
 (.cond (t 80) (.ret) (.skip))) (.skip)))
 (.seq (.seq (r [M 81 1, L 82 (.bin .gtr .none (t 81) (i 0)), M 83 82, G 84 83 true (.mov (t 4)), G 85 83 true (.mov (t 0)), G 86 83 true (.mov (t 1)), G 87 83 true (.bin .sub .none (t 86) (i 1)), G 88 83 true (.indexSl 1 (t 85) (t 87)), G 89 83 true (.load none (t 88)), G 90 83 true (.mov (t 0)), G 91 83 true (.mov (t 13)), G 92 83 true (.indexSl 1 (t 90) (t 91)), G 93 83 true (.load none (t 92)), G 94 83 true (.call (t 84) [(t 89), (t 93)]), G 95 83 true (.bin .lss .none (t 94) (i 0)), G 96 83 true (.un .not (t 95)), K 97 (.pick (t 83) (t 96) (.const (.bool false)))])
 (.cond (t 97) (.seq (r [M 98 0, M 99 1, M 100 2, M 101 13, M 102 4, L 103 (.call (.func 403) [(t 98), (t 99), (t 100), (t 101), (t 102)]), J 15 103])
 (.seq (r [M 104 15, J 1 104])
 (.exit 1))) (.skip)))
 (.seq (r [M 106 0, M 107 1, M 108 2, M 109 13, M 110 4, L 111 (.call (.func 404) [(t 106), (t 107), (t 108), (t 109), (t 110)]), M 105 111, L 112 (.extract (t 105) 0), L 113 (.extract (t 105) 1), J 16 112, J 17 113])
 (.seq (r [M 114 17, J 11 114])
 (.seq (r [M 115 16, M 116 1, L 117 (.bin .sub .none (t 115) (t 116)), M 118 2, M 119 16, L 120 (.bin .sub .none (t 118) (t 119)), J 18 117, J 19 120])
 (.seq (r [M 121 12, L 122 (.bin .quo .none (t 121) (i 8)), J 20 122])
 (.seq (r [M 123 18, M 124 19, K 125 (.bin .lss .none (t 123) (t 124))])
 (.cond (t 125) (.seq (r [M 126 18, M 127 20, L 128 (.bin .geq .none (t 126) (t 127)), J 10 128])
 (.seq (r [M 129 0, M 130 1, M 131 16, M 132 3, M 133 4, L 134 (.call (.func 378) [(t 129), (t 130), (t 131), (t 132), (t 133)])])
 (r [M 135 16, L 136 (.bin .add .none (t 135) (i 1)), J 1 136]))) (.seq (r [M 137 19, M 138 20, L 139 (.bin .geq .none (t 137) (t 138)), J 10 139])
 (.seq (r [M 140 0, M 141 16, L 142 (.bin .add .none (t 141) (i 1)), M 143 2, M 144 3, M 145 4, L 146 (.call (.func 378) [(t 140), (t 142), (t 143), (t 144), (t 145)])])
 (r [M 147 16, J 2 147])))))))))))))))))))))⟩
def f379 : LFunc := ⟨24, [5, 3, 11, 14, 12, 13, 7, 0, 2], [.tmp 2],
 .seq (r [K 2 (.mov (.const (.slice none 0 0)))])
 (.seq (.seq (r [M 6 0, K 7 (.bin .eql .ptr (t 6) (.const (.pointer none)))])
 (.cond (t 7) (.seq (r [K 2 (.mov (.const (.slice none 0 0)))])
 (.ret)) (.skip)))
 (.seq (r [K 3 (.mov (.const (.slice none 0 0)))])
 (.seq (.seq (r [M 8 0, L 9 (.nilCheck (t 8)), L 10 (.fieldAddr 0 (t 9)), K 11 (.load none (t 10)), K 12 (.len false (t 11)), K 13 (.mov (i 0))])
 (.block 0 (.loop [] (.seq (r [K 14 (.bin .lss .none (t 13) (t 12))])
 (.seq (.cond (t 14) (.skip) (.exit 0))
 (.seq (.block 1 (.seq (r [L 15 (.indexSl 4 (t 11) (t 13)), L 16 (.load (some 4) (t 15)), ⟨(some 5), false, .alloc 4 [.string ⟨#[]⟩, .slice none 0 0, .string ⟨#[]⟩, .slice none 0 0], none⟩, N (.store 4 (t 5) (t 16) false)])
 (r [M 17 3, L 18 (.fieldAddr 0 (t 5)), L 19 (.load none (t 18)), ⟨(some 20), true, .buildSlice 1 1 [.string ⟨#[]⟩] [(0, 1, (t 19))] false, none⟩, L 21 (.append 1 16 (t 17) (t 20)), J 3 21])))
 (r [L 22 (.bin .add .none (t 13) (i 1)), J 13 22])))))))
 (.seq (r [M 23 3, J 2 23])
 (.ret)))))⟩
def f383 : LFunc := ⟨24, [3, 14, 2, 1, 0, 4, 5], [.tmp 4, .tmp 5],
 .seq (r [K 2 (.box 1 (t 0) false), K 3 (.box 3 (t 1) false), K 4 (.mov (i 0)), K 5 (.mov (.const (.bool false)))])
 (.seq (.seq (r [L 6 (.load none (t 2)), L 7 (.bin .eql .ptr (t 6) (.const (.pointer none))), M 8 7, G 9 8 false (.load none (t 2)), G 10 8 false (.nilCheck (t 9)), G 11 8 false (.fieldAddr 0 (t 10)), G 12 8 false (.load none (t 11)), G 13 8 false (.bin .eql .func (t 12) (.const (.nilFunc))), K 14 (.pick (t 8) (.const (.bool true)) (t 13))])
 (.cond (t 14) (.seq (r [K 4 (.mov (i 0)), K 5 (.mov (.const (.bool false)))])
 (.ret)) (.skip)))
 (.seq (r [L 15 (.load none (t 2)), L 16 (.nilCheck (t 15)), L 17 (.fieldAddr 1 (t 16)), L 18 (.load none (t 17)), L 19 (.load (some 3) (t 3)), L 20 (.makeFunc (.func 408) [] [(t 2)]), L 21 (.call (.func 407) [(t 18), (t 19), (t 20)]), L 22 (.extract (t 21) 0), L 23 (.extract (t 21) 1), J 4 22, J 5 23])
 (.ret)))⟩
def f384 : LFunc := ⟨95, [68, 9, 31, 22, 8, 16, 7, 2, 1, 0, 6], [.tmp 6],
 .seq (r [K 6 (.mov (.const (.slice none 0 0)))])
 (.seq (r [M 10 0, M 11 1, L 12 (.sliceSl 4 (t 10) (some (t 11)) none none)])
 (.seq (r [M 13 2, L 14 (.len false (t 13)), J 7 14])
 (.seq (.seq (r [M 15 7, K 16 (.bin .eql .none (t 15) (i 0))])
 (.cond (t 16) (.seq (r [M 17 0, J 6 17])
 (.ret)) (.skip)))
 (.seq (r [M 18 0, L 19 (.len false (t 18)), J 8 19])
 (.seq (.seq (r [M 20 1, M 21 8, K 22 (.bin .eql .none (t 20) (t 21))])
 (.cond (t 22) (.seq (r [M 23 0, M 24 2, L 25 (.append 4 56 (t 23) (t 24)), J 6 25])
 (.ret)) (.skip)))
 (.seq (.seq (r [M 26 8, M 27 7, L 28 (.bin .add .none (t 26) (t 27)), M 29 0, L 30 (.cap (t 29)), K 31 (.bin .gtr .none (t 28) (t 30))])
 (.cond (t 31) (.seq (r [M 32 0, M 33 1, L 34 (.sliceSl 4 (t 32) none (some (t 33)) none), M 35 8, M 36 7, L 37 (.bin .add .none (t 35) (t 36)), M 38 1, L 39 (.bin .sub .none (t 37) (t 38)), ⟨(some 40), true, .appendZ 4 56 [.int .i64 0, .int .i64 0, .string ⟨#[]⟩, .slice none 0 0] (t 34) (t 39), none⟩, J 9 40])
 (.seq (r [M 41 9, M 42 1, L 43 (.sliceSl 4 (t 41) (some (t 42)) none none), M 44 2, L 45 (.copy 4 (t 43) (t 44))])
 (.seq (r [M 46 9, M 47 1, M 48 7, L 49 (.bin .add .none (t 47) (t 48)), L 50 (.sliceSl 4 (t 46) (some (t 49)) none none), M 51 0, M 52 1, L 53 (.sliceSl 4 (t 51) (some (t 52)) none none), L 54 (.copy 4 (t 50) (t 53))])
 (.seq (r [M 55 9, J 6 55])
 (.ret))))) (.skip)))
 (.seq (r [M 56 0, M 57 8, M 58 7, L 59 (.bin .add .none (t 57) (t 58)), L 60 (.sliceSl 4 (t 56) none (some (t 59)) none), J 0 60])
 (.seq (.seq (r [M 61 2, M 62 0, M 63 1, M 64 7, L 65 (.bin .add .none (t 63) (t 64)), L 66 (.sliceSl 4 (t 62) (some (t 65)) none none), L 67 (.call (.func 409) [(t 61), (t 66)]), K 68 (.un .not (t 67))])
 (.cond (t 68) (.seq (r [M 69 0, M 70 1, M 71 7, L 72 (.bin .add .none (t 70) (t 71)), L 73 (.sliceSl 4 (t 69) (some (t 72)) none none), M 74 0, M 75 1, L 76 (.sliceSl 4 (t 74) (some (t 75)) none none), L 77 (.copy 4 (t 73) (t 76))])
 (.seq (r [M 78 0, M 79 1, L 80 (.sliceSl 4 (t 78) (some (t 79)) none none), M 81 2, L 82 (.copy 4 (t 80) (t 81))])
 (.seq (r [M 83 0, J 6 83])
 (.ret)))) (.skip)))
 (.seq (r [M 84 0, M 85 8, L 86 (.sliceSl 4 (t 84) (some (t 85)) none none), M 87 2, L 88 (.copy 4 (t 86) (t 87))])
 (.seq (r [M 89 0, M 90 1, L 91 (.sliceSl 4 (t 89) (some (t 90)) none none), M 92 7, L 93 (.call (.func 410) [(t 91), (t 92)])])
 (.seq (r [M 94 0, J 6 94])
 (.ret))))))))))))⟩
def f385 : LFunc := ⟨29, [28, 0, 7, 1, 3], [],
 .seq (r [K 3 (.mov (i 0))])
 (.block 0 (.loop [] (.seq (.seq (r [M 4 3, L 5 (.load none (t 1)), L 6 (.call (.func 386) [(t 5)]), K 7 (.bin .lss .none (t 4) (t 6))])
 (.cond (t 7) (.skip) (.exit 0)))
 (.seq (.block 1 (.seq (r [M 10 0, L 11 (.load none (t 1)), L 12 (.nilCheck (t 11)), L 13 (.fieldAddr 1 (t 12)), L 14 (.load none (t 13)), M 15 3, L 16 (.indexSl 4 (t 14) (t 15)), L 17 (.fieldAddr 0 (t 16)), L 18 (.load (some 3) (t 17)), L 19 (.load none (t 1)), L 20 (.nilCheck (t 19)), L 21 (.fieldAddr 1 (t 20)), L 22 (.load none (t 21)), M 23 3, L 24 (.indexSl 4 (t 22) (t 23)), L 25 (.fieldAddr 3 (t 24)), L 26 (.load none (t 25)), L 27 (.call (t 10) [(t 18), (t 26)]), K 28 (.un .not (t 27))])
 (.cond (t 28) (.ret) (.skip))))
 (r [M 8 3, L 9 (.bin .add .none (t 8) (i 1)), J 3 9])))))⟩
def f386 : LFunc := ⟨10, [4, 0, 2], [.tmp 2],
 .seq (r [K 2 (.mov (i 0))])
 (.seq (.seq (r [M 3 0, K 4 (.bin .eql .ptr (t 3) (.const (.pointer none)))])
 (.cond (t 4) (.seq (r [K 2 (.mov (i 0))])
 (.ret)) (.skip)))
 (.seq (r [M 5 0, L 6 (.nilCheck (t 5)), L 7 (.fieldAddr 1 (t 6)), L 8 (.load none (t 7)), L 9 (.len false (t 8)), J 2 9])
 (.ret)))⟩
def f387 : LFunc := ⟨95, [68, 9, 31, 22, 8, 16, 7, 2, 1, 0, 6], [.tmp 6],
 .seq (r [K 6 (.mov (.const (.slice none 0 0)))])
 (.seq (r [M 10 0, M 11 1, L 12 (.sliceSl 4 (t 10) (some (t 11)) none none)])
 (.seq (r [M 13 2, L 14 (.len false (t 13)), J 7 14])
 (.seq (.seq (r [M 15 7, K 16 (.bin .eql .none (t 15) (i 0))])
 (.cond (t 16) (.seq (r [M 17 0, J 6 17])
 (.ret)) (.skip)))
 (.seq (r [M 18 0, L 19 (.len false (t 18)), J 8 19])
 (.seq (.seq (r [M 20 1, M 21 8, K 22 (.bin .eql .none (t 20) (t 21))])
 (.cond (t 22) (.seq (r [M 23 0, M 24 2, L 25 (.append 4 56 (t 23) (t 24)), J 6 25])
 (.ret)) (.skip)))
 (.seq (.seq (r [M 26 8, M 27 7, L 28 (.bin .add .none (t 26) (t 27)), M 29 0, L 30 (.cap (t 29)), K 31 (.bin .gtr .none (t 28) (t 30))])
 (.cond (t 31) (.seq (r [M 32 0, M 33 1, L 34 (.sliceSl 4 (t 32) none (some (t 33)) none), M 35 8, M 36 7, L 37 (.bin .add .none (t 35) (t 36)), M 38 1, L 39 (.bin .sub .none (t 37) (t 38)), ⟨(some 40), true, .appendZ 4 56 [.int .i64 0, .int .i64 0, .string ⟨#[]⟩, .slice none 0 0] (t 34) (t 39), none⟩, J 9 40])
 (.seq (r [M 41 9, M 42 1, L 43 (.sliceSl 4 (t 41) (some (t 42)) none none), M 44 2, L 45 (.copy 4 (t 43) (t 44))])
 (.seq (r [M 46 9, M 47 1, M 48 7, L 49 (.bin .add .none (t 47) (t 48)), L 50 (.sliceSl 4 (t 46) (some (t 49)) none none), M 51 0, M 52 1, L 53 (.sliceSl 4 (t 51) (some (t 52)) none none), L 54 (.copy 4 (t 50) (t 53))])
 (.seq (r [M 55 9, J 6 55])
 (.ret))))) (.skip)))
 (.seq (r [M 56 0, M 57 8, M 58 7, L 59 (.bin .add .none (t 57) (t 58)), L 60 (.sliceSl 4 (t 56) none (some (t 59)) none), J 0 60])
 (.seq (.seq (r [M 61 2, M 62 0, M 63 1, M 64 7, L 65 (.bin .add .none (t 63) (t 64)), L 66 (.sliceSl 4 (t 62) (some (t 65)) none none), L 67 (.call (.func 411) [(t 61), (t 66)]), K 68 (.un .not (t 67))])
 (.cond (t 68) (.seq (r [M 69 0, M 70 1, M 71 7, L 72 (.bin .add .none (t 70) (t 71)), L 73 (.sliceSl 4 (t 69) (some (t 72)) none none), M 74 0, M 75 1, L 76 (.sliceSl 4 (t 74) (some (t 75)) none none), L 77 (.copy 4 (t 73) (t 76))])
 (.seq (r [M 78 0, M 79 1, L 80 (.sliceSl 4 (t 78) (some (t 79)) none none), M 81 2, L 82 (.copy 4 (t 80) (t 81))])
 (.seq (r [M 83 0, J 6 83])
 (.ret)))) (.skip)))
 (.seq (r [M 84 0, M 85 8, L 86 (.sliceSl 4 (t 84) (some (t 85)) none none), M 87 2, L 88 (.copy 4 (t 86) (t 87))])
 (.seq (r [M 89 0, M 90 1, L 91 (.sliceSl 4 (t 89) (some (t 90)) none none), M 92 7, L 93 (.call (.func 412) [(t 91), (t 92)])])
 (.seq (r [M 94 0, J 6 94])
 (.ret))))))))))))⟩
def f388 : LFunc := ⟨5, [0, 2], [.cell 2 (some 3)],
 .seq (r [⟨(some 2), false, .alloc 3 [.int .i64 0, .int .i64 0, .string ⟨#[]⟩], none⟩])
 (.seq (r [M 3 0, ⟨(some 4), true, .build [.int .i64 0, .int .i64 0, .string ⟨#[]⟩] [(0, 1, (i 1)), (1, 1, (t 3))], none⟩, N (.store 3 (t 2) (t 4) false)])
 (.ret))⟩
def f389 : LFunc := ⟨5, [0, 2], [.cell 2 (some 3)],
 .seq (r [⟨(some 2), false, .alloc 3 [.int .i64 0, .int .i64 0, .string ⟨#[]⟩], none⟩])
 (.seq (r [M 3 0, ⟨(some 4), true, .build [.int .i64 0, .int .i64 0, .string ⟨#[]⟩] [(0, 1, (i 2)), (2, 1, (t 3))], none⟩, N (.store 3 (t 2) (t 4) false)])
 (.ret))⟩
def f390 : LFunc := ⟨34, [8, 26, 20, 9, 1, 7, 0, 4, 5, 6], [.tmp 4, .tmp 5, .cell 6 (some 5)],
 .seq (r [K 4 (.mov (.const (.pointer none))), K 5 (.mov (.const (.slice none 0 0))), ⟨(some 6), false, .alloc 5 [.int .i64 0, .int .i64 0, .string ⟨#[]⟩, .int .i64 0, .string ⟨#[]⟩], none⟩])
 (.seq (r [M 10 0, L 11 (.call (.func 413) [(t 10)]), J 7 11])
 (.seq (r [M 13 7, M 14 1, L 15 (.call (.func 414) [(t 13), (t 14)]), M 12 15, L 16 (.extract (t 12) 0), L 17 (.extract (t 12) 1), ⟨(some 9), false, .alloc 5 [.int .i64 0, .int .i64 0, .string ⟨#[]⟩, .int .i64 0, .string ⟨#[]⟩], none⟩, J 8 16, N (.store 5 (t 9) (t 17) false)])
 (.seq (.seq (r [L 18 (.fieldAddr 0 (t 9)), L 19 (.load none (t 18)), K 20 (.bin .neq .none (t 19) (i 0))])
 (.cond (t 20) (.seq (r [L 21 (.load (some 5) (t 9)), K 4 (.mov (.const (.pointer none))), K 5 (.mov (.const (.slice none 0 0))), N (.store 5 (t 6) (t 21) false)])
 (.ret)) (.skip)))
 (.seq (.seq (r [M 22 7, L 23 (.call (.func 415) [(t 22)]), N (.store 5 (t 9) (t 23) false)])
 (.seq (r [L 24 (.fieldAddr 0 (t 9)), L 25 (.load none (t 24)), K 26 (.bin .neq .none (t 25) (i 0))])
 (.cond (t 26) (.seq (r [M 27 1, L 28 (.len false (t 27)), L 29 (.fieldAddr 1 (t 9)), N (.store 1 (t 29) (t 28) false)])
 (.seq (r [L 30 (.load (some 5) (t 9)), K 4 (.mov (.const (.pointer none))), K 5 (.mov (.const (.slice none 0 0))), N (.store 5 (t 6) (t 30) false)])
 (.ret))) (.skip))))
 (.seq (r [M 31 7, M 32 8, ⟨(some 33), true, .build [.int .i64 0, .int .i64 0, .string ⟨#[]⟩, .int .i64 0, .string ⟨#[]⟩] [], none⟩, J 4 31, J 5 32, N (.store 5 (t 6) (t 33) false)])
 (.ret))))))⟩
def f391 : LFunc := ⟨2, [0], [.tmp 0],
 .seq (r [K 0 (.mov (.const (.bool false)))])
 (.seq (r [L 1 (.call (.func 416) []), J 0 1])
 (.ret))⟩
def f392 : LFunc := ⟨2, [0], [.tmp 0],
 .seq (r [K 0 (.mov (.const (.bool false)))])
 (.seq (r [L 1 (.call (.func 417) []), J 0 1])
 (.ret))⟩
def f393 : LFunc := ⟨49, [31, 4, 11, 2, 17, 10, 9, 8, 0, 1, 6, 7], [.tmp 6, .tmp 7],
 .seq (r [K 4 (.box 3 (t 1) false), K 6 (.mov (i 0)), K 7 (.mov (.const (.bool false)))])
 (.seq (r [M 12 0, L 13 (.len false (t 12)), J 8 13])
 (.seq (r [M 14 8, K 9 (.mov (i 0)), J 10 14])
 (.seq (.block 0 (.loop [] (.seq (.seq (r [M 15 9, M 16 10, K 17 (.bin .lss .none (t 15) (t 16))])
 (.cond (t 17) (.skip) (.exit 0)))
 (.block 1 (.seq (r [M 18 9, M 19 10, L 20 (.bin .add .none (t 18) (t 19)), L 21 (.conv (.int .u64) (t 20)), L 22 (.bin .shr .none (t 21) (.const (.int .u64 1))), L 23 (.conv (.int .i64) (t 22)), J 11 23])
 (.seq (r [M 24 2, M 25 0, M 26 11, L 27 (.indexSl 4 (t 25) (t 26)), L 28 (.load (some 4) (t 27)), L 29 (.load (some 3) (t 4)), L 30 (.call (t 24) [(t 28), (t 29)]), K 31 (.bin .lss .none (t 30) (i 0))])
 (.cond (t 31) (r [M 32 11, L 33 (.bin .add .none (t 32) (i 1)), J 9 33]) (r [M 34 11, J 10 34]))))))))
 (.seq (r [M 35 9, M 36 9, M 37 8, L 38 (.bin .lss .none (t 36) (t 37)), M 39 38, G 40 39 true (.mov (t 2)), G 41 39 true (.mov (t 0)), G 42 39 true (.mov (t 9)), G 43 39 true (.indexSl 4 (t 41) (t 42)), G 44 39 true (.load (some 4) (t 43)), G 45 39 true (.load (some 3) (t 4)), G 46 39 true (.call (t 40) [(t 44), (t 45)]), G 47 39 true (.bin .eql .none (t 46) (i 0)), L 48 (.pick (t 39) (t 47) (.const (.bool false))), J 6 35, J 7 48])
 (.ret)))))⟩
def f394 : LFunc := ⟨14, [4, 3, 2, 1, 0, 5], [.tmp 5],
 .seq (r [K 3 (.box 4 (t 0) false), K 4 (.box 3 (t 1) false), K 5 (.mov (i 0))])
 (.seq (r [L 6 (.load none (t 2)), L 7 (.nilCheck (t 6)), L 8 (.fieldAddr 0 (t 7)), L 9 (.load none (t 8)), L 10 (.fieldAddr 0 (t 3)), L 11 (.load (some 3) (t 10)), L 12 (.load (some 3) (t 4)), L 13 (.call (t 9) [(t 11), (t 12)]), J 5 13])
 (.ret))⟩
def f397 : LFunc := ⟨53, [34, 0, 3, 9, 14, 2, 8, 1], [],
 .seq (r [M 10 1, L 11 (.bin .add .none (t 10) (i 1)), J 8 11])
 (.block 0 (.loop [] (.seq (.seq (r [M 12 8, M 13 2, K 14 (.bin .lss .none (t 12) (t 13))])
 (.cond (t 14) (.skip) (.exit 0)))
 (.seq (.block 1 (.seq (r [M 17 8, J 9 17])
 (.block 2 (.loop [] (.seq (.seq (r [M 18 9, M 19 1, L 20 (.bin .gtr .none (t 18) (t 19)), M 21 20, G 22 21 true (.mov (t 3)), G 23 21 true (.mov (t 0)), G 24 21 true (.mov (t 9)), G 25 21 true (.indexSl 1 (t 23) (t 24)), G 26 21 true (.load none (t 25)), G 27 21 true (.mov (t 0)), G 28 21 true (.mov (t 9)), G 29 21 true (.bin .sub .none (t 28) (i 1)), G 30 21 true (.indexSl 1 (t 27) (t 29)), G 31 21 true (.load none (t 30)), G 32 21 true (.call (t 22) [(t 26), (t 31)]), G 33 21 true (.bin .lss .none (t 32) (i 0)), K 34 (.pick (t 21) (t 33) (.const (.bool false)))])
 (.cond (t 34) (.skip) (.exit 2)))
 (.seq (.block 3 (r [M 37 0, M 38 9, M 39 0, M 40 9, L 41 (.bin .sub .none (t 40) (i 1)), M 42 0, M 43 9, L 44 (.bin .sub .none (t 43) (i 1)), L 45 (.indexSl 1 (t 42) (t 44)), L 46 (.load none (t 45)), M 47 0, M 48 9, L 49 (.indexSl 1 (t 47) (t 48)), L 50 (.load none (t 49)), L 51 (.indexSl 1 (t 37) (t 38)), N (.store 1 (t 51) (t 46) false), L 52 (.indexSl 1 (t 39) (t 41)), N (.store 1 (t 52) (t 50) false)]))
 (r [M 35 9, L 36 (.bin .sub .none (t 35) (i 1)), J 9 36])))))))
 (r [M 15 8, L 16 (.bin .add .none (t 15) (i 1)), J 8 16])))))⟩
def f407 : LFunc := ⟨49, [31, 4, 11, 2, 17, 10, 9, 8, 0, 1, 6, 7], [.tmp 6, .tmp 7],
 .seq (r [K 4 (.box 3 (t 1) false), K 6 (.mov (i 0)), K 7 (.mov (.const (.bool false)))])
 (.seq (r [M 12 0, L 13 (.len false (t 12)), J 8 13])
 (.seq (r [M 14 8, K 9 (.mov (i 0)), J 10 14])
 (.seq (.block 0 (.loop [] (.seq (.seq (r [M 15 9, M 16 10, K 17 (.bin .lss .none (t 15) (t 16))])
 (.cond (t 17) (.skip) (.exit 0)))
 (.block 1 (.seq (r [M 18 9, M 19 10, L 20 (.bin .add .none (t 18) (t 19)), L 21 (.conv (.int .u64) (t 20)), L 22 (.bin .shr .none (t 21) (.const (.int .u64 1))), L 23 (.conv (.int .i64) (t 22)), J 11 23])
 (.seq (r [M 24 2, M 25 0, M 26 11, L 27 (.indexSl 4 (t 25) (t 26)), L 28 (.load (some 4) (t 27)), L 29 (.load (some 3) (t 4)), L 30 (.call (t 24) [(t 28), (t 29)]), K 31 (.bin .lss .none (t 30) (i 0))])
 (.cond (t 31) (r [M 32 11, L 33 (.bin .add .none (t 32) (i 1)), J 9 33]) (r [M 34 11, J 10 34]))))))))
 (.seq (r [M 35 9, M 36 9, M 37 8, L 38 (.bin .lss .none (t 36) (t 37)), M 39 38, G 40 39 true (.mov (t 2)), G 41 39 true (.mov (t 0)), G 42 39 true (.mov (t 9)), G 43 39 true (.indexSl 4 (t 41) (t 42)), G 44 39 true (.load (some 4) (t 43)), G 45 39 true (.load (some 3) (t 4)), G 46 39 true (.call (t 40) [(t 44), (t 45)]), G 47 39 true (.bin .eql .none (t 46) (i 0)), L 48 (.pick (t 39) (t 47) (.const (.bool false))), J 6 35, J 7 48])
 (.ret)))))⟩
def f408 : LFunc := ⟨14, [4, 3, 2, 1, 0, 5], [.tmp 5],
 .seq (r [K 3 (.box 4 (t 0) false), K 4 (.box 3 (t 1) false), K 5 (.mov (i 0))])
 (.seq (r [L 6 (.load none (t 2)), L 7 (.nilCheck (t 6)), L 8 (.fieldAddr 0 (t 7)), L 9 (.load none (t 8)), L 10 (.fieldAddr 0 (t 3)), L 11 (.load (some 3) (t 10)), L 12 (.load (some 3) (t 4)), L 13 (.call (t 9) [(t 11), (t 12)]), J 5 13])
 (.ret))⟩
def f413 : LFunc := ⟨50, [6, 3, 5, 15, 18, 16, 17, 9, 0, 2], [.tmp 2],
 .seq (r [K 2 (.mov (.const (.pointer none)))])
 (.seq (.seq (r [M 8 0, K 9 (.bin .eql .ptr (t 8) (.const (.pointer none)))])
 (.cond (t 9) (.seq (r [K 2 (.mov (.const (.pointer none)))])
 (.ret)) (.skip)))
 (.seq (r [L 10 (.call (.func 5) []), J 3 10])
 (.seq (.seq (r [M 11 0, L 12 (.nilCheck (t 11)), L 13 (.fieldAddr 0 (t 12)), L 14 (.load none (t 13)), K 15 (.call (.func 379) [(t 14)]), K 16 (.len false (t 15)), K 17 (.mov (i 0))])
 (.block 0 (.loop [] (.seq (r [K 18 (.bin .lss .none (t 17) (t 16))])
 (.seq (.cond (t 18) (.skip) (.exit 0))
 (.seq (.block 1 (.seq (r [L 19 (.indexSl 1 (t 15) (t 17)), L 20 (.load none (t 19)), J 5 20])
 (.seq (r [M 22 0, L 23 (.nilCheck (t 22)), L 24 (.fieldAddr 0 (t 23)), L 25 (.load none (t 24)), M 26 5, L 27 (.call (.func 93) [(t 25), (t 26)]), M 21 27, L 28 (.extract (t 21) 0), L 29 (.extract (t 21) 1), ⟨(some 6), false, .alloc 4 [.string ⟨#[]⟩, .slice none 0 0, .string ⟨#[]⟩, .slice none 0 0], none⟩, N (.store 4 (t 6) (t 28) false), M 7 29])
 (.seq (r [M 30 3, L 31 (.nilCheck (t 30)), L 32 (.fieldAddr 0 (t 31)), L 33 (.load none (t 32)), L 34 (.load (some 4) (t 6)), L 35 (.call (.func 105) [(t 33), (t 34)])])
 (.region [M 36 3, L 37 (.nilCheck (t 36)), L 38 (.fieldAddr 1 (t 37)), L 39 (.load none (t 38)), M 40 5, M 41 0, L 42 (.nilCheck (t 41)), L 43 (.fieldAddr 1 (t 42)), L 44 (.load none (t 43)), M 45 5, L 46 (.lookup 2 (.pointer none) (t 44) (t 45) false), L 47 (.call (.func 425) [(t 46)]), N (.mapUpdate 2 (t 39) (t 40) (t 47))] [(3, 11)])))))
 (r [L 48 (.bin .add .none (t 17) (i 1)), J 17 48])))))))
 (.seq (r [M 49 3, J 2 49])
 (.ret)))))⟩
def f414 : LFunc := ⟨50, [9, 6, 42, 7, 34, 10, 8, 0, 20, 23, 21, 22, 18, 1, 4, 5], [.tmp 4, .cell 5 (some 5)],
 .seq (r [K 4 (.mov (.const (.slice none 0 0))), ⟨(some 5), false, .alloc 5 [.int .i64 0, .int .i64 0, .string ⟨#[]⟩, .int .i64 0, .string ⟨#[]⟩], none⟩])
 (.seq (.seq (r [M 11 1, L 12 (.len false (t 11)), L 13 (.bin .eql .none (t 12) (i 0)), M 14 13, G 15 14 false (.mov (t 1)), G 16 14 false (.len false (t 15)), G 17 14 false (.bin .gtr .none (t 16) (i 40)), K 18 (.pick (t 14) (.const (.bool true)) (t 17))])
 (.cond (t 18) (.seq (r [⟨(some 19), true, .build [.int .i64 0, .int .i64 0, .string ⟨#[]⟩, .int .i64 0, .string ⟨#[]⟩] [(0, 1, (i 5))], none⟩, K 4 (.mov (.const (.slice none 0 0))), N (.store 5 (t 5) (t 19) false)])
 (.ret)) (.skip)))
 (.seq (r [K 6 (.mov (.const (.slice none 0 0)))])
 (.seq (.seq (r [J 20 1, K 21 (.len false (t 20)), K 22 (.mov (i 0))])
 (.block 0 (.loop [] (.seq (r [K 23 (.bin .lss .none (t 22) (t 21))])
 (.seq (.cond (t 23) (.skip) (.exit 0))
 (.seq (.block 1 (.seq (r [M 24 22, L 25 (.indexSl 5 (t 20) (t 22)), L 26 (.load (some 5) (t 25)), ⟨(some 8), false, .alloc 5 [.int .i64 0, .string ⟨#[]⟩, .int .i64 0, .string ⟨#[]⟩, .slice none 0 0], none⟩, J 7 24, N (.store 5 (t 8) (t 26) false)])
 (.seq (r [M 28 0, L 29 (.load (some 5) (t 8)), L 30 (.call (.func 426) [(t 28), (t 29)]), M 27 30, L 31 (.extract (t 27) 0), L 32 (.extract (t 27) 1), J 9 31, J 10 32])
 (.seq (.seq (r [M 33 10, K 34 (.bin .neq .none (t 33) (i 0))])
 (.cond (t 34) (.seq (r [M 35 10, M 36 7, L 37 (.fieldAddr 1 (t 8)), L 38 (.load none (t 37)), ⟨(some 39), true, .build [.int .i64 0, .int .i64 0, .string ⟨#[]⟩, .int .i64 0, .string ⟨#[]⟩] [(0, 1, (t 35)), (1, 1, (t 36)), (2, 1, (t 38))], none⟩, K 4 (.mov (.const (.slice none 0 0))), N (.store 5 (t 5) (t 39) false)])
 (.ret)) (.skip)))
 (.seq (r [L 40 (.fieldAddr 0 (t 8)), L 41 (.load none (t 40)), K 42 (.bin .eql .none (t 41) (i 1))])
 (.cond (t 42) (r [M 43 6, M 44 9, L 45 (.buildSlice 1 1 [.int .i64 0] [(0, 1, (t 44))] false), L 46 (.append 1 8 (t 43) (t 45)), J 6 46]) (.skip)))))))
 (r [L 47 (.bin .add .none (t 22) (i 1)), J 22 47])))))))
 (.seq (r [M 48 6, ⟨(some 49), true, .build [.int .i64 0, .int .i64 0, .string ⟨#[]⟩, .int .i64 0, .string ⟨#[]⟩] [], none⟩, J 4 48, N (.store 5 (t 5) (t 49) false)])
 (.ret)))))⟩
def f415 : LFunc := ⟨47, [39, 9, 7, 8, 31, 30, 26, 6, 5, 4, 12, 15, 13, 14, 1, 0, 2], [.cell 2 (some 5)],
 .seq (r [K 1 (.box 1 (t 0) false), ⟨(some 2), false, .alloc 5 [.int .i64 0, .int .i64 0, .string ⟨#[]⟩, .int .i64 0, .string ⟨#[]⟩], none⟩])
 (.seq (.seq (r [L 10 (.load none (t 1)), L 11 (.call (.func 45) [(t 10)]), K 12 (.call (.func 379) [(t 11)]), K 13 (.len false (t 12)), K 14 (.mov (i 0))])
 (.block 0 (.loop [] (.seq (r [K 15 (.bin .lss .none (t 14) (t 13))])
 (.seq (.cond (t 15) (.skip) (.exit 0))
 (.seq (.block 1 (.seq (r [L 16 (.indexSl 1 (t 12) (t 14)), L 17 (.load none (t 16)), ⟨(some 4), false, .alloc 1 [.string ⟨#[]⟩], none⟩, N (.store 1 (t 4) (t 17) false)])
 (.seq (r [L 18 (.load none (t 1)), L 19 (.load none (t 4)), L 20 (.call (.func 12) [(t 18), (t 19)]), J 5 20])
 (.seq (.seq (r [L 21 (.load none (t 4)), M 22 5, L 23 (.call (.func 427) [(t 21), (t 22)]), ⟨(some 6), false, .alloc 5 [.int .i64 0, .int .i64 0, .string ⟨#[]⟩, .int .i64 0, .string ⟨#[]⟩], none⟩, N (.store 5 (t 6) (t 23) false)])
 (.seq (r [L 24 (.fieldAddr 0 (t 6)), L 25 (.load none (t 24)), K 26 (.bin .neq .none (t 25) (i 0))])
 (.cond (t 26) (.seq (r [L 27 (.load (some 5) (t 6)), N (.store 5 (t 2) (t 27) false)])
 (.ret)) (.skip))))
 (.seq (r [K 7 (.alloc 1 [.slice none 0 0])])
 (.seq (r [M 28 5, L 29 (.call (.func 13) [(t 28)]), K 30 (.call (.func 14) [(t 29)])])
 (.block 2 (.rangeFunc (t 30) [31] (r [J 8 31]) (.block 3 (.seq (.seq (r [L 32 (.load none (t 1)), L 33 (.load none (t 4)), M 34 8, L 35 (.load none (t 7)), L 36 (.call (.func 428) [(t 32), (t 33), (t 34), (t 35)]), ⟨(some 9), false, .alloc 5 [.int .i64 0, .int .i64 0, .string ⟨#[]⟩, .int .i64 0, .string ⟨#[]⟩], none⟩, N (.store 5 (t 9) (t 36) false)])
 (.seq (r [L 37 (.fieldAddr 0 (t 9)), L 38 (.load none (t 37)), K 39 (.bin .neq .none (t 38) (i 0))])
 (.cond (t 39) (.seq (r [L 40 (.load (some 5) (t 9)), N (.store 5 (t 2) (t 40) false)])
 (.ret)) (.skip))))
 (r [L 41 (.load none (t 7)), M 42 8, L 43 (.buildSlice 1 1 [.int .i64 0] [(0, 1, (t 42))] false), L 44 (.append 1 8 (t 41) (t 43)), N (.store 1 (t 7) (t 44) false)])))))))))))
 (r [L 45 (.bin .add .none (t 14) (i 1)), J 14 45])))))))
 (.seq (r [⟨(some 46), true, .build [.int .i64 0, .int .i64 0, .string ⟨#[]⟩, .int .i64 0, .string ⟨#[]⟩] [], none⟩, N (.store 5 (t 2) (t 46) false)])
 (.ret)))⟩
def f416 : LFunc := ⟨83, [8, 6, 3, 4, 19, 1, 0], [.tmp 0],
 .seq (r [K 0 (.mov (.const (.bool false)))])
 (.seq (r [L 10 (.call (.func 25) []), M 9 10, L 11 (.extract (t 9) 0), L 12 (.extract (t 9) 1), J 1 11, M 2 12])
 (.seq (.seq (r [M 13 1, L 14 (.bin .eql .ptr (t 13) (.const (.pointer none))), M 15 14, G 16 15 false (.mov (t 1)), ⟨(some 17), true, .call (.func 12) [(t 16), (.const (.string ⟨#[108, 97, 110, 100]⟩))], (some (15, false))⟩, G 18 15 false (.bin .eql .ptr (t 17) (.const (.pointer none))), K 19 (.pick (t 15) (.const (.bool true)) (t 18))])
 (.cond (t 19) (.seq (r [K 0 (.mov (.const (.bool false)))])
 (.ret)) (.skip)))
 (.seq (r [M 21 1, L 22 (.call (.func 429) [(i 5)]), ⟨(some 23), true, .call (.func 430) [(.const (.string ⟨#[97]⟩))], none⟩, ⟨(some 24), true, .buildSlice 3 2 [.int .i64 0, .int .i64 0, .string ⟨#[]⟩] [(0, 3, (t 22)), (3, 3, (t 23))] false, none⟩, ⟨(some 25), true, .build [.int .i64 0, .string ⟨#[]⟩, .int .i64 0, .string ⟨#[]⟩, .slice none 0 0] [(0, 1, (i 1)), (1, 1, (.const (.string ⟨#[108, 97, 110, 100]⟩))), (4, 1, (t 24))], none⟩, ⟨(some 26), true, .call (.func 430) [(.const (.string ⟨#[98]⟩))], none⟩, ⟨(some 27), true, .buildSlice 3 1 [.int .i64 0, .int .i64 0, .string ⟨#[]⟩] [(0, 3, (t 26))] false, none⟩, ⟨(some 28), true, .build [.int .i64 0, .string ⟨#[]⟩, .int .i64 0, .string ⟨#[]⟩, .slice none 0 0] [(0, 1, (i 3)), (1, 1, (.const (.string ⟨#[108, 97, 110, 100]⟩))), (3, 1, (.const (.string ⟨#[110, 97, 109, 101]⟩))), (4, 1, (t 27))], none⟩, ⟨(some 29), true, .buildSlice 5 2 [.int .i64 0, .string ⟨#[]⟩, .int .i64 0, .string ⟨#[]⟩, .slice none 0 0] [(0, 5, (t 25)), (5, 5, (t 28))] false, none⟩, L 30 (.call (.func 414) [(t 21), (t 29)]), M 20 30, L 31 (.extract (t 20) 0), L 32 (.extract (t 20) 1), ⟨(some 4), false, .alloc 5 [.int .i64 0, .int .i64 0, .string ⟨#[]⟩, .int .i64 0, .string ⟨#[]⟩], none⟩, J 3 31, N (.store 5 (t 4) (t 32) false)])
 (.seq (r [M 34 1, ⟨(some 35), true, .build [.int .i64 0, .string ⟨#[]⟩, .int .i64 0, .string ⟨#[]⟩, .slice none 0 0] [(0, 1, (i 2)), (1, 1, (.const (.string ⟨#[108, 97, 110, 100]⟩)))], none⟩, ⟨(some 36), true, .build [.int .i64 0, .string ⟨#[]⟩, .int .i64 0, .string ⟨#[]⟩, .slice none 0 0] [(0, 1, (i 2)), (1, 1, (.const (.string ⟨#[108, 97, 110, 100]⟩)))], none⟩, ⟨(some 37), true, .buildSlice 5 2 [.int .i64 0, .string ⟨#[]⟩, .int .i64 0, .string ⟨#[]⟩, .slice none 0 0] [(0, 5, (t 35)), (5, 5, (t 36))] false, none⟩, L 38 (.call (.func 414) [(t 34), (t 37)]), M 33 38, L 39 (.extract (t 33) 0), L 40 (.extract (t 33) 1), ⟨(some 6), false, .alloc 5 [.int .i64 0, .int .i64 0, .string ⟨#[]⟩, .int .i64 0, .string ⟨#[]⟩], none⟩, M 5 39, N (.store 5 (t 6) (t 40) false)])
 (.seq (r [M 42 1, L 43 (.call (.func 414) [(t 42), (.const (.slice none 0 0))]), M 41 43, L 44 (.extract (t 41) 0), L 45 (.extract (t 41) 1), ⟨(some 8), false, .alloc 5 [.int .i64 0, .int .i64 0, .string ⟨#[]⟩, .int .i64 0, .string ⟨#[]⟩], none⟩, M 7 44, N (.store 5 (t 8) (t 45) false)])
 (.seq (r [L 46 (.call (.func 431) []), M 47 46, G 48 47 true (.fieldAddr 0 (t 4)), G 49 47 true (.load none (t 48)), G 50 47 true (.bin .eql .none (t 49) (i 0)), L 51 (.pick (t 47) (t 50) (.const (.bool false))), M 52 51, G 53 52 true (.mov (t 3)), G 54 52 true (.len false (t 53)), G 55 52 true (.bin .eql .none (t 54) (i 1)), L 56 (.pick (t 52) (t 55) (.const (.bool false))), M 57 56, G 58 57 true (.mov (t 3)), G 59 57 true (.indexSl 1 (t 58) (i 0)), G 60 57 true (.load none (t 59)), G 61 57 true (.bin .eql .none (t 60) (i 0)), L 62 (.pick (t 57) (t 61) (.const (.bool false))), M 63 62, G 64 63 true (.fieldAddr 0 (t 6)), G 65 63 true (.load none (t 64)), G 66 63 true (.bin .eql .none (t 65) (i 6)), L 67 (.pick (t 63) (t 66) (.const (.bool false))), M 68 67, G 69 68 true (.fieldAddr 1 (t 6)), G 70 68 true (.load none (t 69)), G 71 68 true (.bin .eql .none (t 70) (i 1)), L 72 (.pick (t 68) (t 71) (.const (.bool false))), M 73 72, G 74 73 true (.fieldAddr 2 (t 6)), G 75 73 true (.load none (t 74)), ⟨(some 76), true, .bin .eql .none (t 75) (.const (.string ⟨#[108, 97, 110, 100]⟩)), (some (73, true))⟩, L 77 (.pick (t 73) (t 76) (.const (.bool false))), M 78 77, G 79 78 true (.fieldAddr 0 (t 8)), G 80 78 true (.load none (t 79)), G 81 78 true (.bin .eql .none (t 80) (i 5)), L 82 (.pick (t 78) (t 81) (.const (.bool false))), J 0 82])
 (.ret)))))))⟩
def f417 : LFunc := ⟨68, [4, 3, 2, 15, 1, 0], [.tmp 0],
 .seq (r [K 0 (.mov (.const (.bool false)))])
 (.seq (r [L 6 (.call (.func 25) []), M 5 6, L 7 (.extract (t 5) 0), L 8 (.extract (t 5) 1), J 1 7, J 2 8])
 (.seq (.seq (r [M 9 1, L 10 (.bin .eql .ptr (t 9) (.const (.pointer none))), M 11 10, G 12 11 false (.mov (t 1)), ⟨(some 13), true, .call (.func 12) [(t 12), (.const (.string ⟨#[115, 104, 111, 112]⟩))], (some (11, false))⟩, G 14 11 false (.bin .eql .ptr (t 13) (.const (.pointer none))), K 15 (.pick (t 11) (.const (.bool true)) (t 14))])
 (.cond (t 15) (.seq (r [K 0 (.mov (.const (.bool false)))])
 (.ret)) (.skip)))
 (.seq (r [M 16 1, L 17 (.call (.func 415) [(t 16)]), ⟨(some 3), false, .alloc 5 [.int .i64 0, .int .i64 0, .string ⟨#[]⟩, .int .i64 0, .string ⟨#[]⟩], none⟩, N (.store 5 (t 3) (t 17) false)])
 (.seq (r [M 18 1, M 19 2, L 20 (.call (.func 433) [(i 1)]), ⟨(some 21), true, .call (.func 434) [(.const (.string ⟨#[120]⟩))], none⟩, ⟨(some 22), true, .call (.func 434) [(.const (.string ⟨#[110]⟩))], none⟩, ⟨(some 23), true, .build [.int .i64 0, .int .i64 0, .string ⟨#[]⟩] [], none⟩, ⟨(some 24), true, .buildSlice 3 4 [.int .i64 0, .int .i64 0, .string ⟨#[]⟩] [(0, 3, (t 20)), (3, 3, (t 21)), (6, 3, (t 22)), (9, 3, (t 23))] false, none⟩, ⟨(some 25), true, .call (.func 432) [(.const (.string ⟨#[115, 104, 111, 112]⟩)), (t 24)], none⟩, L 26 (.call (.func 433) [(i 2)]), ⟨(some 27), true, .call (.func 434) [(.const (.string ⟨#[120]⟩))], none⟩, ⟨(some 28), true, .call (.func 434) [(.const (.string ⟨#[115]⟩))], none⟩, ⟨(some 29), true, .build [.int .i64 0, .int .i64 0, .string ⟨#[]⟩] [], none⟩, ⟨(some 30), true, .buildSlice 3 4 [.int .i64 0, .int .i64 0, .string ⟨#[]⟩] [(0, 3, (t 26)), (3, 3, (t 27)), (6, 3, (t 28)), (9, 3, (t 29))] false, none⟩, ⟨(some 31), true, .call (.func 432) [(.const (.string ⟨#[115, 104, 111, 112]⟩)), (t 30)], none⟩, ⟨(some 32), true, .buildSlice 5 2 [.int .i64 0, .string ⟨#[]⟩, .int .i64 0, .string ⟨#[]⟩, .slice none 0 0] [(0, 5, (t 25)), (5, 5, (t 31))] false, none⟩, L 33 (.call (.func 27) [(t 18), (t 19), (t 32)])])
 (.seq (r [M 34 1, L 35 (.call (.func 415) [(t 34)]), ⟨(some 4), false, .alloc 5 [.int .i64 0, .int .i64 0, .string ⟨#[]⟩, .int .i64 0, .string ⟨#[]⟩], none⟩, N (.store 5 (t 4) (t 35) false)])
 (.seq (r [L 36 (.call (.func 431) []), M 37 36, G 38 37 true (.fieldAddr 0 (t 3)), G 39 37 true (.load none (t 38)), G 40 37 true (.bin .eql .none (t 39) (i 0)), L 41 (.pick (t 37) (t 40) (.const (.bool false))), M 42 41, G 43 42 true (.fieldAddr 0 (t 4)), G 44 42 true (.load none (t 43)), G 45 42 true (.bin .eql .none (t 44) (i 10)), L 46 (.pick (t 42) (t 45) (.const (.bool false))), M 47 46, G 48 47 true (.fieldAddr 2 (t 4)), G 49 47 true (.load none (t 48)), ⟨(some 50), true, .bin .eql .none (t 49) (.const (.string ⟨#[115, 104, 111, 112]⟩)), (some (47, true))⟩, L 51 (.pick (t 47) (t 50) (.const (.bool false))), M 52 51, G 53 52 true (.fieldAddr 3 (t 4)), G 54 52 true (.load none (t 53)), G 55 52 true (.bin .eql .none (t 54) (i 1)), L 56 (.pick (t 52) (t 55) (.const (.bool false))), M 57 56, G 58 57 true (.fieldAddr 4 (t 4)), G 59 57 true (.load none (t 58)), ⟨(some 60), true, .bin .eql .none (t 59) (.const (.string ⟨#[122, 111, 110, 101]⟩)), (some (57, true))⟩, L 61 (.pick (t 57) (t 60) (.const (.bool false))), M 62 61, G 63 62 true (.mov (t 2)), G 64 62 true (.call (.func 435) [(t 63)]), G 65 62 true (.field none 0 (t 64)), G 66 62 true (.bin .eql .none (t 65) (i 10)), L 67 (.pick (t 62) (t 66) (.const (.bool false))), J 0 67])
 (.ret)))))))⟩
def f425 : LFunc := ⟨61, [7, 4, 3, 6, 27, 25, 26, 5, 17, 20, 18, 19, 10, 0, 2], [.tmp 2],
 .seq (r [K 2 (.mov (.const (.pointer none)))])
 (.seq (.seq (r [M 9 0, K 10 (.bin .eql .ptr (t 9) (.const (.pointer none)))])
 (.cond (t 10) (.seq (r [K 2 (.mov (.const (.pointer none)))])
 (.ret)) (.skip)))
 (.seq (r [M 11 0, L 12 (.call (.func 97) [(t 11)]), L 13 (.call (.func 106) [(t 12)]), J 3 13])
 (.seq (.seq (r [M 14 0, L 15 (.nilCheck (t 14)), L 16 (.fieldAddr 4 (t 15)), K 17 (.load none (t 16)), K 18 (.len false (t 17)), K 19 (.mov (i 0))])
 (.block 0 (.loop [] (.seq (r [K 20 (.bin .lss .none (t 19) (t 18))])
 (.seq (.cond (t 20) (.skip) (.exit 0))
 (.seq (.block 1 (.seq (r [M 21 19, L 22 (.indexSl 1 (t 17) (t 19)), L 23 (.load none (t 22)), J 4 21, J 5 23])
 (.seq (r [M 24 5, K 25 (.call (.func 144) [(t 24)]), K 26 (.mov (i 0))])
 (.block 2 (.loop [] (.seq (r [K 27 (.bin .lss .none (t 26) (t 25))])
 (.seq (.cond (t 27) (.skip) (.exit 2))
 (.seq (.block 3 (.seq (r [M 28 26, J 6 28])
 (.seq (r [M 30 5, M 31 6, L 32 (.call (.func 96) [(t 30), (t 31)]), M 29 32, L 33 (.extract (t 29) 0), L 34 (.extract (t 29) 1), ⟨(some 7), false, .alloc 3 [.int .i64 0, .int .i64 0, .string ⟨#[]⟩], none⟩, N (.store 3 (t 7) (t 33) false), M 8 34])
 (r [M 35 3, L 36 (.nilCheck (t 35)), L 37 (.fieldAddr 4 (t 36)), L 38 (.load none (t 37)), M 39 4, L 40 (.indexSl 1 (t 38) (t 39)), L 41 (.load none (t 40)), L 42 (.load (some 3) (t 7)), L 43 (.call (.func 117) [(t 41), (t 42)])]))))
 (r [L 44 (.bin .add .none (t 26) (i 1)), J 26 44])))))))))
 (r [L 45 (.bin .add .none (t 19) (i 1)), J 19 45])))))))
 (.seq (r [M 46 3, M 47 3, M 48 0, L 49 (.nilCheck (t 48)), L 50 (.fieldAddr 5 (t 49)), L 51 (.load (some 1) (t 50)), M 52 0, L 53 (.nilCheck (t 52)), L 54 (.fieldAddr 6 (t 53)), L 55 (.load none (t 54)), L 56 (.nilCheck (t 46)), L 57 (.fieldAddr 5 (t 56)), N (.store 1 (t 57) (t 51) false), L 58 (.nilCheck (t 47)), L 59 (.fieldAddr 6 (t 58)), N (.store 1 (t 59) (t 55) false)])
 (.seq (r [M 60 3, J 2 60])
 (.ret))))))⟩
def f426 : LFunc := ⟨67, [61, 47, 37, 34, 6, 11, 3, 0, 1, 4, 5], [.tmp 4, .tmp 5],
 .seq (r [K 3 (.box 5 (t 1) false), K 4 (.mov (i 0)), K 5 (.mov (i 0))])
 (.seq (r [M 7 0, L 8 (.fieldAddr 1 (t 3)), L 9 (.load none (t 8)), L 10 (.call (.func 12) [(t 7), (t 9)]), J 6 10])
 (.seq (.block 0 (.seq (.seq (r [L 12 (.fieldAddr 0 (t 3)), L 13 (.load none (t 12)), L 14 (.bin .neq .none (t 13) (i 1)), M 15 14, G 16 15 true (.fieldAddr 0 (t 3)), G 17 15 true (.load none (t 16)), G 18 15 true (.bin .neq .none (t 17) (i 2)), L 19 (.pick (t 15) (t 18) (.const (.bool false))), M 20 19, G 21 20 true (.fieldAddr 0 (t 3)), G 22 20 true (.load none (t 21)), G 23 20 true (.bin .neq .none (t 22) (i 3)), L 24 (.pick (t 20) (t 23) (.const (.bool false))), J 11 24])
 (.cond (t 11) (.skip) (r [L 25 (.fieldAddr 0 (t 3)), L 26 (.load none (t 25)), L 27 (.bin .eql .none (t 26) (i 3)), M 28 27, G 29 28 true (.fieldAddr 4 (t 3)), G 30 28 true (.load none (t 29)), G 31 28 true (.len false (t 30)), G 32 28 true (.bin .neq .none (t 31) (i 1)), L 33 (.pick (t 28) (t 32) (.const (.bool false))), J 11 33])))
 (.cond (t 11) (.seq (r [K 4 (.mov (i (-1))), K 5 (.mov (i 1))])
 (.ret)) (.seq (r [M 35 6, L 36 (.bin .eql .ptr (t 35) (.const (.pointer none))), J 34 36])
 (.cond (t 34) (.seq (r [K 4 (.mov (i (-1))), K 5 (.mov (i 3))])
 (.ret)) (.seq (r [L 38 (.fieldAddr 0 (t 3)), L 39 (.load none (t 38)), L 40 (.bin .eql .none (t 39) (i 1)), J 37 40])
 (.cond (t 37) (.seq (r [M 41 6, L 42 (.fieldAddr 4 (t 3)), L 43 (.load none (t 42)), L 44 (.call (.func 65) [(t 41), (t 43)]), L 45 (.extract (t 44) 0), L 46 (.extract (t 44) 1), J 4 45, J 5 46])
 (.ret)) (.seq (r [L 48 (.fieldAddr 0 (t 3)), L 49 (.load none (t 48)), L 50 (.bin .eql .none (t 49) (i 3)), J 47 50])
 (.cond (t 47) (.seq (r [M 51 6, L 52 (.fieldAddr 2 (t 3)), L 53 (.load none (t 52)), L 54 (.fieldAddr 3 (t 3)), L 55 (.load none (t 54)), L 56 (.fieldAddr 4 (t 3)), L 57 (.load none (t 56)), L 58 (.indexSl 3 (t 57) (i 0)), L 59 (.load (some 3) (t 58)), L 60 (.call (.func 69) [(t 51), (t 53), (t 55), (t 59)]), K 4 (.mov (i (-1))), J 5 60])
 (.ret)) (.seq (r [M 62 6, L 63 (.fieldAddr 2 (t 3)), L 64 (.load none (t 63)), L 65 (.call (.func 67) [(t 62), (t 64)]), L 66 (.un .not (t 65)), J 61 66])
 (.cond (t 61) (.seq (r [K 4 (.mov (i (-1))), K 5 (.mov (i 6))])
 (.ret)) (.skip))))))))))))
 (.seq (r [K 4 (.mov (i (-1))), K 5 (.mov (i 0))])
 (.ret))))⟩
def f427 : LFunc := ⟨32, [25, 6, 15, 18, 16, 17, 0, 10, 1, 4], [.cell 4 (some 5)],
 .seq (r [⟨(some 4), false, .alloc 5 [.int .i64 0, .int .i64 0, .string ⟨#[]⟩, .int .i64 0, .string ⟨#[]⟩], none⟩])
 (.seq (.seq (r [M 7 1, L 8 (.call (.func 13) [(t 7)]), L 9 (.call (.func 233) [(t 8)]), K 10 (.bin .gtr .none (t 9) (i 64))])
 (.cond (t 10) (.seq (r [M 11 0, ⟨(some 12), true, .build [.int .i64 0, .int .i64 0, .string ⟨#[]⟩, .int .i64 0, .string ⟨#[]⟩] [(0, 1, (i 5)), (2, 1, (t 11))], none⟩, N (.store 5 (t 4) (t 12) false)])
 (.ret)) (.skip)))
 (.seq (.seq (r [M 13 1, L 14 (.call (.func 97) [(t 13)]), K 15 (.field none 1 (t 14)), K 16 (.len false (t 15)), K 17 (.mov (i 0))])
 (.block 0 (.loop [] (.seq (r [K 18 (.bin .lss .none (t 17) (t 16))])
 (.seq (.cond (t 18) (.skip) (.exit 0))
 (.seq (.block 1 (.seq (r [L 19 (.indexSl 4 (t 15) (t 17)), L 20 (.load (some 4) (t 19)), ⟨(some 6), false, .alloc 4 [.string ⟨#[]⟩, .int .i64 0, .bool false, .string ⟨#[]⟩], none⟩, N (.store 4 (t 6) (t 20) false)])
 (.seq (r [M 21 1, L 22 (.fieldAddr 0 (t 6)), L 23 (.load none (t 22)), L 24 (.call (.func 439) [(t 21), (t 23)]), K 25 (.bin .gtr .none (t 24) (i 40))])
 (.cond (t 25) (.seq (r [M 26 0, L 27 (.fieldAddr 0 (t 6)), L 28 (.load none (t 27)), ⟨(some 29), true, .build [.int .i64 0, .int .i64 0, .string ⟨#[]⟩, .int .i64 0, .string ⟨#[]⟩] [(0, 1, (i 5)), (2, 1, (t 26)), (4, 1, (t 28))], none⟩, N (.store 5 (t 4) (t 29) false)])
 (.ret)) (.skip)))))
 (r [L 30 (.bin .add .none (t 17) (i 1)), J 17 30])))))))
 (.seq (r [⟨(some 31), true, .build [.int .i64 0, .int .i64 0, .string ⟨#[]⟩, .int .i64 0, .string ⟨#[]⟩] [], none⟩, N (.store 5 (t 4) (t 31) false)])
 (.ret))))⟩
def f428 : LFunc := ⟨148, [139, 26, 24, 129, 132, 130, 131, 123, 126, 124, 125, 115, 22, 105, 19, 18, 84, 87, 85, 86, 76, 16, 60, 63, 61, 62, 3, 53, 13, 12, 2, 33, 36, 34, 35, 10, 9, 1, 0, 8], [.cell 8 (some 5)],
 .seq (r [⟨(some 8), false, .alloc 5 [.int .i64 0, .int .i64 0, .string ⟨#[]⟩, .int .i64 0, .string ⟨#[]⟩], none⟩])
 (.seq (r [M 27 0, M 28 1, L 29 (.call (.func 12) [(t 27), (t 28)]), J 9 29])
 (.seq (r [M 30 9, L 31 (.call (.func 97) [(t 30)]), ⟨(some 10), false, .alloc 4 [.string ⟨#[]⟩, .slice none 0 0, .string ⟨#[]⟩, .slice none 0 0], none⟩, N (.store 4 (t 10) (t 31) false)])
 (.seq (.seq (r [L 32 (.fieldAddr 1 (t 10)), K 33 (.load none (t 32)), K 34 (.len false (t 33)), K 35 (.mov (i 0))])
 (.block 0 (.loop [] (.seq (r [K 36 (.bin .lss .none (t 35) (t 34))])
 (.seq (.cond (t 36) (.skip) (.exit 0))
 (.seq (.block 1 (.seq (r [L 37 (.indexSl 4 (t 33) (t 35)), L 38 (.load (some 4) (t 37)), ⟨(some 12), false, .alloc 4 [.string ⟨#[]⟩, .int .i64 0, .bool false, .string ⟨#[]⟩], none⟩, N (.store 4 (t 12) (t 38) false)])
 (.seq (r [M 40 9, M 41 2, L 42 (.fieldAddr 0 (t 12)), L 43 (.load none (t 42)), L 44 (.call (.func 48) [(t 40), (t 41), (t 43)]), M 39 44, L 45 (.extract (t 39) 0), L 46 (.extract (t 39) 1), ⟨(some 13), false, .alloc 3 [.int .i64 0, .int .i64 0, .string ⟨#[]⟩], none⟩, N (.store 3 (t 13) (t 45) false), M 14 46])
 (.seq (r [L 47 (.fieldAddr 2 (t 12)), L 48 (.load none (t 47)), M 49 48, G 50 49 true (.fieldAddr 0 (t 13)), G 51 49 true (.load none (t 50)), G 52 49 true (.bin .eql .none (t 51) (i 0)), K 53 (.pick (t 49) (t 52) (.const (.bool false)))])
 (.cond (t 53) (.seq (r [M 54 1, M 55 2, L 56 (.fieldAddr 0 (t 12)), L 57 (.load none (t 56)), ⟨(some 58), true, .build [.int .i64 0, .int .i64 0, .string ⟨#[]⟩, .int .i64 0, .string ⟨#[]⟩] [(0, 1, (i 7)), (2, 1, (t 54)), (3, 1, (t 55)), (4, 1, (t 57))], none⟩, N (.store 5 (t 8) (t 58) false)])
 (.ret)) (.skip))))))
 (r [L 59 (.bin .add .none (t 35) (i 1)), J 35 59])))))))
 (.seq (.seq (r [J 60 3, K 61 (.len false (t 60)), K 62 (.mov (i 0))])
 (.block 2 (.loop [] (.seq (r [K 63 (.bin .lss .none (t 62) (t 61))])
 (.seq (.cond (t 63) (.skip) (.exit 2))
 (.seq (.block 3 (.seq (r [L 64 (.indexSl 1 (t 60) (t 62)), L 65 (.load none (t 64)), J 16 65])
 (.seq (r [L 66 (.fieldAddr 2 (t 10)), L 67 (.load none (t 66)), ⟨(some 68), true, .bin .neq .none (t 67) (.const (.string ⟨#[]⟩)), none⟩, M 69 68, G 70 69 true (.mov (t 9)), G 71 69 true (.mov (t 16)), G 72 69 true (.mov (t 2)), G 73 69 true (.fieldAddr 2 (t 10)), G 74 69 true (.load none (t 73)), G 75 69 true (.call (.func 440) [(t 70), (t 71), (t 72), (t 74)]), K 76 (.pick (t 69) (t 75) (.const (.bool false)))])
 (.cond (t 76) (.seq (r [M 77 1, M 78 2, L 79 (.fieldAddr 2 (t 10)), L 80 (.load none (t 79)), ⟨(some 81), true, .build [.int .i64 0, .int .i64 0, .string ⟨#[]⟩, .int .i64 0, .string ⟨#[]⟩] [(0, 1, (i 8)), (2, 1, (t 77)), (3, 1, (t 78)), (4, 1, (t 80))], none⟩, N (.store 5 (t 8) (t 81) false)])
 (.ret)) (.skip)))))
 (r [L 82 (.bin .add .none (t 62) (i 1)), J 62 82])))))))
 (.seq (.seq (r [L 83 (.fieldAddr 1 (t 10)), K 84 (.load none (t 83)), K 85 (.len false (t 84)), K 86 (.mov (i 0))])
 (.block 4 (.loop [] (.seq (r [K 87 (.bin .lss .none (t 86) (t 85))])
 (.seq (.cond (t 87) (.skip) (.exit 4))
 (.seq (.block 5 (.seq (r [L 88 (.indexSl 4 (t 84) (t 86)), L 89 (.load (some 4) (t 88)), ⟨(some 18), false, .alloc 4 [.string ⟨#[]⟩, .int .i64 0, .bool false, .string ⟨#[]⟩], none⟩, N (.store 4 (t 18) (t 89) false)])
 (.seq (r [M 91 9, M 92 2, L 93 (.fieldAddr 0 (t 18)), L 94 (.load none (t 93)), L 95 (.call (.func 48) [(t 91), (t 92), (t 94)]), M 90 95, L 96 (.extract (t 90) 0), L 97 (.extract (t 90) 1), ⟨(some 19), false, .alloc 3 [.int .i64 0, .int .i64 0, .string ⟨#[]⟩], none⟩, N (.store 3 (t 19) (t 96) false), M 20 97])
 (.seq (.seq (r [L 98 (.fieldAddr 3 (t 18)), L 99 (.load none (t 98)), ⟨(some 100), true, .bin .eql .none (t 99) (.const (.string ⟨#[]⟩)), none⟩, M 101 100, G 102 101 false (.fieldAddr 0 (t 19)), G 103 101 false (.load none (t 102)), G 104 101 false (.bin .eql .none (t 103) (i 0)), K 105 (.pick (t 101) (.const (.bool true)) (t 104))])
 (.cond (t 105) (.exit 5) (.skip)))
 (.seq (r [M 107 0, L 108 (.fieldAddr 3 (t 18)), L 109 (.load none (t 108)), L 110 (.load (some 3) (t 19)), L 111 (.call (.func 49) [(t 107), (t 109), (t 110)]), M 106 111, L 112 (.extract (t 106) 0), L 113 (.extract (t 106) 1), M 21 112, J 22 113])
 (.seq (r [M 114 22, K 115 (.un .not (t 114))])
 (.cond (t 115) (.seq (r [M 116 1, M 117 2, L 118 (.fieldAddr 0 (t 18)), L 119 (.load none (t 118)), ⟨(some 120), true, .build [.int .i64 0, .int .i64 0, .string ⟨#[]⟩, .int .i64 0, .string ⟨#[]⟩] [(0, 1, (i 9)), (2, 1, (t 116)), (3, 1, (t 117)), (4, 1, (t 119))], none⟩, N (.store 5 (t 8) (t 120) false)])
 (.ret)) (.skip))))))))
 (r [L 121 (.bin .add .none (t 86) (i 1)), J 86 121])))))))
 (.seq (.seq (r [L 122 (.fieldAddr 3 (t 10)), K 123 (.load none (t 122)), K 124 (.len false (t 123)), K 125 (.mov (i 0))])
 (.block 6 (.loop [] (.seq (r [K 126 (.bin .lss .none (t 125) (t 124))])
 (.seq (.cond (t 126) (.skip) (.exit 6))
 (.seq (.block 7 (.seq (r [L 127 (.indexSl 2 (t 123) (t 125)), L 128 (.load (some 2) (t 127)), ⟨(some 24), false, .alloc 2 [.slice none 0 0, .string ⟨#[]⟩], none⟩, N (.store 2 (t 24) (t 128) false)])
 (.seq (r [J 129 3, K 130 (.len false (t 129)), K 131 (.mov (i 0))])
 (.block 8 (.loop [] (.seq (r [K 132 (.bin .lss .none (t 131) (t 130))])
 (.seq (.cond (t 132) (.skip) (.exit 8))
 (.seq (.block 9 (.seq (r [L 133 (.indexSl 1 (t 129) (t 131)), L 134 (.load none (t 133)), J 26 134])
 (.seq (r [M 135 9, L 136 (.load (some 2) (t 24)), M 137 26, M 138 2, K 139 (.call (.func 441) [(t 135), (t 136), (t 137), (t 138)])])
 (.cond (t 139) (.seq (r [M 140 1, M 141 2, L 142 (.fieldAddr 1 (t 24)), L 143 (.load none (t 142)), ⟨(some 144), true, .build [.int .i64 0, .int .i64 0, .string ⟨#[]⟩, .int .i64 0, .string ⟨#[]⟩] [(0, 1, (i 10)), (2, 1, (t 140)), (3, 1, (t 141)), (4, 1, (t 143))], none⟩, N (.store 5 (t 8) (t 144) false)])
 (.ret)) (.skip)))))
 (r [L 145 (.bin .add .none (t 131) (i 1)), J 131 145])))))))))
 (r [L 146 (.bin .add .none (t 125) (i 1)), J 125 146])))))))
 (.seq (r [⟨(some 147), true, .build [.int .i64 0, .int .i64 0, .string ⟨#[]⟩, .int .i64 0, .string ⟨#[]⟩] [], none⟩, N (.store 5 (t 8) (t 147) false)])
 (.ret))))))))⟩
def f429 : LFunc := ⟨5, [0, 2], [.cell 2 (some 3)],
 .seq (r [⟨(some 2), false, .alloc 3 [.int .i64 0, .int .i64 0, .string ⟨#[]⟩], none⟩])
 (.seq (r [M 3 0, ⟨(some 4), true, .build [.int .i64 0, .int .i64 0, .string ⟨#[]⟩] [(0, 1, (i 1)), (1, 1, (t 3))], none⟩, N (.store 3 (t 2) (t 4) false)])
 (.ret))⟩
def f430 : LFunc := ⟨5, [0, 2], [.cell 2 (some 3)],
 .seq (r [⟨(some 2), false, .alloc 3 [.int .i64 0, .int .i64 0, .string ⟨#[]⟩], none⟩])
 (.seq (r [M 3 0, ⟨(some 4), true, .build [.int .i64 0, .int .i64 0, .string ⟨#[]⟩] [(0, 1, (i 2)), (2, 1, (t 3))], none⟩, N (.store 3 (t 2) (t 4) false)])
 (.ret))⟩
def f431 : LFunc := ⟨2, [0], [.tmp 0],
 .seq (r [K 0 (.mov (.const (.bool false)))])
 (.seq (r [L 1 (.call (.func 442) []), J 0 1])
 (.ret))⟩
def f432 : LFunc := ⟨9, [1, 0, 4], [.cell 4 (some 5)],
 .seq (r [⟨(some 4), false, .alloc 5 [.int .i64 0, .string ⟨#[]⟩, .int .i64 0, .string ⟨#[]⟩, .slice none 0 0], none⟩])
 (.seq (r [M 5 0, M 6 1, L 7 (.append 3 32 (.const (.slice none 0 0)) (t 6)), ⟨(some 8), true, .build [.int .i64 0, .string ⟨#[]⟩, .int .i64 0, .string ⟨#[]⟩, .slice none 0 0] [(0, 1, (i 1)), (1, 1, (t 5)), (4, 1, (t 7))], none⟩, N (.store 5 (t 4) (t 8) false)])
 (.ret))⟩
def f433 : LFunc := ⟨5, [0, 2], [.cell 2 (some 3)],
 .seq (r [⟨(some 2), false, .alloc 3 [.int .i64 0, .int .i64 0, .string ⟨#[]⟩], none⟩])
 (.seq (r [M 3 0, ⟨(some 4), true, .build [.int .i64 0, .int .i64 0, .string ⟨#[]⟩] [(0, 1, (i 1)), (1, 1, (t 3))], none⟩, N (.store 3 (t 2) (t 4) false)])
 (.ret))⟩
def f434 : LFunc := ⟨5, [0, 2], [.cell 2 (some 3)],
 .seq (r [⟨(some 2), false, .alloc 3 [.int .i64 0, .int .i64 0, .string ⟨#[]⟩], none⟩])
 (.seq (r [M 3 0, ⟨(some 4), true, .build [.int .i64 0, .int .i64 0, .string ⟨#[]⟩] [(0, 1, (i 2)), (2, 1, (t 3))], none⟩, N (.store 3 (t 2) (t 4) false)])
 (.ret))⟩
def f435 : LFunc := ⟨106, [8, 89, 7, 78, 6, 54, 47, 5, 4, 34, 15, 0, 3, 2], [.cell 2 (some 5)],
 .seq (r [⟨(some 2), false, .alloc 5 [.int .i64 0, .int .i64 0, .string ⟨#[]⟩, .int .i64 0, .string ⟨#[]⟩], none⟩])
 (.seq (.seq (r [K 3 (.mov (i 0))])
 (.block 0 (.loop [] (.seq (.seq (r [M 9 3, M 10 0, L 11 (.nilCheck (t 10)), L 12 (.fieldAddr 0 (t 11)), L 13 (.load none (t 12)), L 14 (.len false (t 13)), K 15 (.bin .lss .none (t 9) (t 14))])
 (.cond (t 15) (.skip) (.exit 0)))
 (.seq (.block 1 (.seq (r [M 18 0, L 19 (.nilCheck (t 18)), L 20 (.fieldAddr 0 (t 19)), L 21 (.load none (t 20)), M 22 3, L 23 (.indexSl 4 (t 21) (t 22)), L 24 (.fieldAddr 0 (t 23)), L 25 (.load none (t 24)), J 4 25])
 (.seq (.seq (r [M 26 0, L 27 (.nilCheck (t 26)), L 28 (.fieldAddr 1 (t 27)), L 29 (.load none (t 28)), M 30 3, L 31 (.indexSl 1 (t 29) (t 30)), L 32 (.load none (t 31)), L 33 (.len false (t 32)), K 34 (.bin .gtr .none (t 33) (i 64))])
 (.cond (t 34) (.seq (r [M 35 4, ⟨(some 36), true, .build [.int .i64 0, .int .i64 0, .string ⟨#[]⟩, .int .i64 0, .string ⟨#[]⟩] [(0, 1, (i 5)), (2, 1, (t 35))], none⟩, N (.store 5 (t 2) (t 36) false)])
 (.ret)) (.skip)))
 (.seq (.seq (r [K 5 (.mov (i 0))])
 (.block 2 (.loop [] (.seq (.seq (r [M 37 5, M 38 0, L 39 (.nilCheck (t 38)), L 40 (.fieldAddr 0 (t 39)), L 41 (.load none (t 40)), M 42 3, L 43 (.indexSl 4 (t 41) (t 42)), L 44 (.fieldAddr 1 (t 43)), L 45 (.load none (t 44)), L 46 (.len false (t 45)), K 47 (.bin .lss .none (t 37) (t 46))])
 (.cond (t 47) (.skip) (.exit 2)))
 (.seq (.block 3 (.seq (r [M 50 0, M 51 3, M 52 5, L 53 (.call (.func 443) [(t 50), (t 51), (t 52)]), K 54 (.bin .gtr .none (t 53) (i 40))])
 (.cond (t 54) (.seq (r [M 55 4, M 56 0, L 57 (.nilCheck (t 56)), L 58 (.fieldAddr 0 (t 57)), L 59 (.load none (t 58)), M 60 3, L 61 (.indexSl 4 (t 59) (t 60)), L 62 (.fieldAddr 1 (t 61)), L 63 (.load none (t 62)), M 64 5, L 65 (.indexSl 4 (t 63) (t 64)), L 66 (.fieldAddr 0 (t 65)), L 67 (.load none (t 66)), ⟨(some 68), true, .build [.int .i64 0, .int .i64 0, .string ⟨#[]⟩, .int .i64 0, .string ⟨#[]⟩] [(0, 1, (i 5)), (2, 1, (t 55)), (4, 1, (t 67))], none⟩, N (.store 5 (t 2) (t 68) false)])
 (.ret)) (.skip))))
 (r [M 48 5, L 49 (.bin .add .none (t 48) (i 1)), J 5 49]))))))
 (.seq (r [K 6 (.mov (i 0))])
 (.block 4 (.loop [] (.seq (.seq (r [M 69 6, M 70 0, L 71 (.nilCheck (t 70)), L 72 (.fieldAddr 1 (t 71)), L 73 (.load none (t 72)), M 74 3, L 75 (.indexSl 1 (t 73) (t 74)), L 76 (.load none (t 75)), L 77 (.len false (t 76)), K 78 (.bin .lss .none (t 69) (t 77))])
 (.cond (t 78) (.skip) (.exit 4)))
 (.seq (.block 5 (.seq (r [M 82 0, M 83 3, M 84 6, L 85 (.call (.func 444) [(t 82), (t 83), (t 84)]), M 81 85, L 86 (.extract (t 81) 0), L 87 (.extract (t 81) 1), J 7 86, J 8 87])
 (.seq (r [M 88 7, K 89 (.bin .neq .none (t 88) (i 0))])
 (.cond (t 89) (.seq (r [M 90 7, M 91 4, M 92 0, L 93 (.nilCheck (t 92)), L 94 (.fieldAddr 1 (t 93)), L 95 (.load none (t 94)), M 96 3, L 97 (.indexSl 1 (t 95) (t 96)), L 98 (.load none (t 97)), M 99 6, L 100 (.indexSl 2 (t 98) (t 99)), L 101 (.fieldAddr 0 (t 100)), L 102 (.load none (t 101)), M 103 8, ⟨(some 104), true, .build [.int .i64 0, .int .i64 0, .string ⟨#[]⟩, .int .i64 0, .string ⟨#[]⟩] [(0, 1, (t 90)), (2, 1, (t 91)), (3, 1, (t 102)), (4, 1, (t 103))], none⟩, N (.store 5 (t 2) (t 104) false)])
 (.ret)) (.skip)))))
 (r [M 79 6, L 80 (.bin .add .none (t 79) (i 1)), J 6 80]))))))))))
 (r [M 16 3, L 17 (.bin .add .none (t 16) (i 1)), J 3 17]))))))
 (.seq (r [⟨(some 105), true, .build [.int .i64 0, .int .i64 0, .string ⟨#[]⟩, .int .i64 0, .string ⟨#[]⟩] [], none⟩, N (.store 5 (t 2) (t 105) false)])
 (.ret)))⟩
def f439 : LFunc := ⟨19, [10, 5, 1, 0, 4], [.tmp 4],
 .seq (r [K 4 (.mov (i 0))])
 (.seq (r [M 6 0, M 7 1, L 8 (.call (.func 95) [(t 6), (t 7)]), J 5 8])
 (.seq (.seq (r [M 9 5, K 10 (.bin .lss .none (t 9) (i 0))])
 (.cond (t 10) (.seq (r [K 4 (.mov (i 0))])
 (.ret)) (.skip)))
 (.seq (r [M 11 0, L 12 (.nilCheck (t 11)), L 13 (.fieldAddr 4 (t 12)), L 14 (.load none (t 13)), M 15 5, L 16 (.indexSl 1 (t 14) (t 15)), L 17 (.load none (t 16)), L 18 (.call (.func 445) [(t 17)]), J 4 18])
 (.ret))))⟩
def f440 : LFunc := ⟨30, [11, 9, 2, 3, 1, 0, 8], [.tmp 8],
 .seq (r [K 8 (.mov (.const (.bool false)))])
 (.seq (r [M 14 0, M 15 1, M 16 3, L 17 (.call (.func 48) [(t 14), (t 15), (t 16)]), M 13 17, L 18 (.extract (t 13) 0), L 19 (.extract (t 13) 1), ⟨(some 9), false, .alloc 3 [.int .i64 0, .int .i64 0, .string ⟨#[]⟩], none⟩, N (.store 3 (t 9) (t 18) false), M 10 19])
 (.seq (r [M 21 0, M 22 2, M 23 3, L 24 (.call (.func 48) [(t 21), (t 22), (t 23)]), M 20 24, L 25 (.extract (t 20) 0), L 26 (.extract (t 20) 1), ⟨(some 11), false, .alloc 3 [.int .i64 0, .int .i64 0, .string ⟨#[]⟩], none⟩, N (.store 3 (t 11) (t 25) false), M 12 26])
 (.seq (r [L 27 (.load (some 3) (t 9)), L 28 (.load (some 3) (t 11)), L 29 (.call (.func 98) [(t 27), (t 28)]), J 8 29])
 (.ret))))⟩
def f441 : LFunc := ⟨32, [23, 10, 3, 2, 0, 12, 15, 13, 14, 5, 1, 8], [.tmp 8],
 .seq (r [K 5 (.box 2 (t 1) false), K 8 (.mov (.const (.bool false)))])
 (.seq (.seq (r [L 11 (.fieldAddr 0 (t 5)), K 12 (.load none (t 11)), K 13 (.len false (t 12)), K 14 (.mov (i 0))])
 (.block 0 (.loop [] (.seq (r [K 15 (.bin .lss .none (t 14) (t 13))])
 (.seq (.cond (t 15) (.skip) (.exit 0))
 (.seq (.block 1 (.seq (r [L 16 (.indexSl 1 (t 12) (t 14)), L 17 (.load none (t 16)), J 10 17])
 (.seq (r [M 18 0, M 19 2, M 20 3, M 21 10, L 22 (.call (.func 440) [(t 18), (t 19), (t 20), (t 21)]), K 23 (.un .not (t 22))])
 (.cond (t 23) (.seq (r [K 8 (.mov (.const (.bool false)))])
 (.ret)) (.skip)))))
 (r [L 24 (.bin .add .none (t 14) (i 1)), J 14 24])))))))
 (.seq (r [M 25 0, M 26 2, M 27 3, L 28 (.fieldAddr 1 (t 5)), L 29 (.load none (t 28)), L 30 (.call (.func 440) [(t 25), (t 26), (t 27), (t 29)]), L 31 (.un .not (t 30)), J 8 31])
 (.ret)))⟩
def f442 : LFunc := ⟨121, [13, 12, 11, 8, 9, 6, 7, 5, 4, 3, 39, 1, 0], [.tmp 0],
 .seq (r [K 0 (.mov (.const (.bool false)))])
 (.seq (r [L 15 (.call (.func 25) []), M 14 15, L 16 (.extract (t 14) 0), L 17 (.extract (t 14) 1), J 1 16, M 2 17])
 (.seq (.seq (r [M 18 1, L 19 (.bin .eql .ptr (t 18) (.const (.pointer none))), M 20 19, G 21 20 false (.mov (t 1)), ⟨(some 22), true, .call (.func 12) [(t 21), (.const (.string ⟨#[108, 97, 110, 100]⟩))], (some (20, false))⟩, G 23 20 false (.bin .eql .ptr (t 22) (.const (.pointer none))), L 24 (.pick (t 20) (.const (.bool true)) (t 23)), M 25 24, G 26 25 false (.mov (t 1)), ⟨(some 27), true, .call (.func 12) [(t 26), (.const (.string ⟨#[115, 104, 111, 112]⟩))], (some (25, false))⟩, G 28 25 false (.bin .eql .ptr (t 27) (.const (.pointer none))), L 29 (.pick (t 25) (.const (.bool true)) (t 28)), M 30 29, G 31 30 false (.mov (t 1)), ⟨(some 32), true, .call (.func 12) [(t 31), (.const (.string ⟨#[120]⟩))], (some (30, false))⟩, G 33 30 false (.bin .neq .ptr (t 32) (.const (.pointer none))), L 34 (.pick (t 30) (.const (.bool true)) (t 33)), M 35 34, G 36 35 false (.mov (t 1)), G 37 35 false (.call (.func 45) [(t 36)]), G 38 35 false (.bin .eql .ptr (t 37) (.const (.pointer none))), K 39 (.pick (t 35) (.const (.bool true)) (t 38))])
 (.cond (t 39) (.seq (r [K 0 (.mov (.const (.bool false)))])
 (.ret)) (.skip)))
 (.seq (r [⟨(some 40), true, .build [.int .i64 0, .int .i64 0, .string ⟨#[]⟩] [(0, 1, (i 1)), (1, 1, (i 1))], none⟩, ⟨(some 3), false, .alloc 3 [.int .i64 0, .int .i64 0, .string ⟨#[]⟩], none⟩, N (.store 3 (t 3) (t 40) false)])
 (.seq (.region [M 41 1, ⟨(some 42), true, .call (.func 12) [(t 41), (.const (.string ⟨#[108, 97, 110, 100]⟩))], none⟩, L 43 (.load (some 3) (t 3)), ⟨(some 44), true, .build [.int .i64 0, .int .i64 0, .string ⟨#[]⟩] [(0, 1, (i 2)), (2, 1, (.const (.string ⟨#[104, 101, 114, 101]⟩)))], none⟩, ⟨(some 45), true, .buildSlice 3 2 [.int .i64 0, .int .i64 0, .string ⟨#[]⟩] [(0, 3, (t 43)), (3, 3, (t 44))] false, none⟩, L 46 (.call (.func 65) [(t 42), (t 45)])] [(2, 1)])
 (.seq (.region [M 48 1, ⟨(some 49), true, .call (.func 12) [(t 48), (.const (.string ⟨#[115, 104, 111, 112]⟩))], none⟩, L 50 (.load (some 3) (t 3)), ⟨(some 51), true, .build [.int .i64 0, .int .i64 0, .string ⟨#[]⟩] [(0, 1, (i 2)), (2, 1, (.const (.string ⟨#[120]⟩)))], none⟩, ⟨(some 52), true, .build [.int .i64 0, .int .i64 0, .string ⟨#[]⟩] [], none⟩, L 53 (.load (some 3) (t 3)), ⟨(some 54), true, .buildSlice 3 4 [.int .i64 0, .int .i64 0, .string ⟨#[]⟩] [(0, 3, (t 50)), (3, 3, (t 51)), (6, 3, (t 52)), (9, 3, (t 53))] false, none⟩, L 55 (.call (.func 65) [(t 49), (t 54)]), M 47 55, L 56 (.extract (t 47) 0), L 57 (.extract (t 47) 1), J 4 56, J 5 57] [(2, 1), (5, 1)])
 (.seq (r [M 59 1, M 60 4, ⟨(some 61), true, .buildSlice 1 2 [.string ⟨#[]⟩] [(0, 1, (.const (.string ⟨#[108, 97, 110, 100]⟩))), (1, 1, (.const (.string ⟨#[110, 97, 109, 101]⟩)))] false, none⟩, ⟨(some 62), true, .call (.func 19) [(t 59), (.const (.string ⟨#[115, 104, 111, 112]⟩)), (t 60), (t 61)], none⟩, M 58 62, L 63 (.extract (t 58) 0), L 64 (.extract (t 58) 1), ⟨(some 6), false, .alloc 3 [.int .i64 0, .int .i64 0, .string ⟨#[]⟩], none⟩, N (.store 3 (t 6) (t 63) false), J 7 64])
 (.seq (r [M 66 1, M 67 4, ⟨(some 68), true, .buildSlice 1 1 [.string ⟨#[]⟩] [(0, 1, (.const (.string ⟨#[122, 111, 110, 101]⟩)))] false, none⟩, ⟨(some 69), true, .call (.func 19) [(t 66), (.const (.string ⟨#[115, 104, 111, 112]⟩)), (t 67), (t 68)], none⟩, M 65 69, L 70 (.extract (t 65) 0), L 71 (.extract (t 65) 1), ⟨(some 8), false, .alloc 3 [.int .i64 0, .int .i64 0, .string ⟨#[]⟩], none⟩, N (.store 3 (t 8) (t 70) false), J 9 71])
 (.seq (r [M 73 1, ⟨(some 74), true, .buildSlice 1 1 [.string ⟨#[]⟩] [(0, 1, (.const (.string ⟨#[122, 111, 110, 101]⟩)))] false, none⟩, ⟨(some 75), true, .call (.func 19) [(t 73), (.const (.string ⟨#[115, 104, 111, 112]⟩)), (i 9), (t 74)], none⟩, M 72 75, L 76 (.extract (t 72) 0), L 77 (.extract (t 72) 1), ⟨(some 10), true, .alloc 3 [.int .i64 0, .int .i64 0, .string ⟨#[]⟩], none⟩, N (.store 3 (t 10) (t 76) false), J 11 77])
 (.seq (r [M 79 1, L 80 (.load (some 3) (t 3)), ⟨(some 81), true, .call (.func 49) [(t 79), (.const (.string ⟨#[108, 97, 110, 100]⟩)), (t 80)], none⟩, M 78 81, L 82 (.extract (t 78) 0), L 83 (.extract (t 78) 1), J 12 82, J 13 83])
 (.seq (r [L 84 (.call (.func 446) []), M 85 84, G 86 85 true (.mov (t 5)), G 87 85 true (.bin .eql .none (t 86) (i 0)), L 88 (.pick (t 85) (t 87) (.const (.bool false))), M 89 88, G 90 89 true (.mov (t 7)), L 91 (.pick (t 89) (t 90) (.const (.bool false))), M 92 91, G 93 92 true (.fieldAddr 2 (t 6)), G 94 92 true (.load none (t 93)), ⟨(some 95), true, .bin .eql .none (t 94) (.const (.string ⟨#[104, 101, 114, 101]⟩)), (some (92, true))⟩, L 96 (.pick (t 92) (t 95) (.const (.bool false))), M 97 96, G 98 97 true (.mov (t 9)), L 99 (.pick (t 97) (t 98) (.const (.bool false))), M 100 99, G 101 100 true (.fieldAddr 0 (t 8)), G 102 100 true (.load none (t 101)), G 103 100 true (.bin .eql .none (t 102) (i 0)), L 104 (.pick (t 100) (t 103) (.const (.bool false))), M 105 104, G 106 105 true (.mov (t 11)), G 107 105 true (.un .not (t 106)), L 108 (.pick (t 105) (t 107) (.const (.bool false))), M 109 108, G 110 109 true (.mov (t 12)), G 111 109 true (.bin .eql .none (t 110) (i 0)), L 112 (.pick (t 109) (t 111) (.const (.bool false))), M 113 112, G 114 113 true (.mov (t 13)), L 115 (.pick (t 113) (t 114) (.const (.bool false))), M 116 115, G 117 116 true (.mov (t 1)), G 118 116 true (.call (.func 413) [(t 117)]), G 119 116 true (.bin .neq .ptr (t 118) (.const (.pointer none))), L 120 (.pick (t 116) (t 119) (.const (.bool false))), J 0 120])
 (.ret)))))))))))⟩
def f443 : LFunc := ⟨70, [7, 66, 46, 10, 11, 9, 2, 21, 1, 0, 8, 6], [.tmp 6],
 .seq (r [K 6 (.mov (i 0))])
 (.seq (r [K 7 (.mov (i 0))])
 (.seq (.seq (r [K 8 (.mov (i 0))])
 (.block 0 (.loop [] (.seq (.seq (r [M 12 8, M 13 0, L 14 (.nilCheck (t 13)), L 15 (.fieldAddr 1 (t 14)), L 16 (.load none (t 15)), M 17 1, L 18 (.indexSl 1 (t 16) (t 17)), L 19 (.load none (t 18)), L 20 (.len false (t 19)), K 21 (.bin .lss .none (t 12) (t 20))])
 (.cond (t 21) (.skip) (.exit 0)))
 (.seq (.block 1 (.seq (r [M 24 0, L 25 (.nilCheck (t 24)), L 26 (.fieldAddr 1 (t 25)), L 27 (.load none (t 26)), M 28 1, L 29 (.indexSl 1 (t 27) (t 28)), L 30 (.load none (t 29)), M 31 8, L 32 (.indexSl 2 (t 30) (t 31)), L 33 (.fieldAddr 1 (t 32)), L 34 (.load none (t 33)), M 35 2, L 36 (.indexSl 3 (t 34) (t 35)), L 37 (.load (some 3) (t 36)), ⟨(some 9), false, .alloc 3 [.int .i64 0, .int .i64 0, .string ⟨#[]⟩], none⟩, N (.store 3 (t 9) (t 37) false)])
 (.seq (r [L 38 (.fieldAddr 0 (t 9)), L 39 (.load none (t 38)), L 40 (.bin .eql .none (t 39) (i 2)), J 10 40])
 (.seq (.seq (r [K 11 (.mov (i 0))])
 (.block 2 (.loop [] (.seq (.seq (r [M 41 11, M 42 8, L 43 (.bin .lss .none (t 41) (t 42)), M 44 43, G 45 44 true (.mov (t 10)), K 46 (.pick (t 44) (t 45) (.const (.bool false)))])
 (.cond (t 46) (.skip) (.exit 2)))
 (.seq (.block 3 (r [M 49 0, L 50 (.nilCheck (t 49)), L 51 (.fieldAddr 1 (t 50)), L 52 (.load none (t 51)), M 53 1, L 54 (.indexSl 1 (t 52) (t 53)), L 55 (.load none (t 54)), M 56 11, L 57 (.indexSl 2 (t 55) (t 56)), L 58 (.fieldAddr 1 (t 57)), L 59 (.load none (t 58)), M 60 2, L 61 (.indexSl 3 (t 59) (t 60)), L 62 (.load (some 3) (t 61)), L 63 (.load (some 3) (t 9)), L 64 (.call (.func 447) [(t 62), (t 63)]), L 65 (.un .not (t 64)), J 10 65]))
 (r [M 47 11, L 48 (.bin .add .none (t 47) (i 1)), J 11 48]))))))
 (.seq (r [J 66 10])
 (.cond (t 66) (r [M 67 7, L 68 (.bin .add .none (t 67) (i 1)), J 7 68]) (.skip)))))))
 (r [M 22 8, L 23 (.bin .add .none (t 22) (i 1)), J 8 23]))))))
 (.seq (r [M 69 7, J 6 69])
 (.ret))))⟩
def f444 : LFunc := ⟨235, [228, 17, 21, 19, 170, 20, 159, 18, 146, 16, 135, 15, 118, 101, 13, 95, 74, 12, 71, 11, 59, 8, 43, 9, 10, 2, 1, 0, 6, 7], [.tmp 6, .tmp 7],
 .seq (r [K 6 (.mov (i 0)), ⟨(some 7), false, .mov (.const (.string ⟨#[]⟩)), none⟩])
 (.seq (.region [M 22 0, L 23 (.nilCheck (t 22)), L 24 (.fieldAddr 0 (t 23)), L 25 (.load none (t 24)), M 26 1, L 27 (.indexSl 4 (t 25) (t 26)), L 28 (.load (some 4) (t 27)), M 29 0, L 30 (.nilCheck (t 29)), L 31 (.fieldAddr 1 (t 30)), L 32 (.load none (t 31)), M 33 1, L 34 (.indexSl 1 (t 32) (t 33)), L 35 (.load none (t 34)), M 36 2, L 37 (.indexSl 2 (t 35) (t 36)), L 38 (.fieldAddr 1 (t 37)), L 39 (.load none (t 38)), ⟨(some 8), false, .alloc 4 [.string ⟨#[]⟩, .slice none 0 0, .string ⟨#[]⟩, .slice none 0 0], none⟩, N (.store 4 (t 8) (t 28) false), J 9 39] [(10, 19), (13, 19), (17, 19)])
 (.seq (.seq (r [K 10 (.mov (i 0))])
 (.block 0 (.loop [] (.seq (.seq (r [M 40 10, M 41 9, L 42 (.len false (t 41)), K 43 (.bin .lss .none (t 40) (t 42))])
 (.cond (t 43) (.skip) (.exit 0)))
 (.seq (.block 1 (.seq (r [L 46 (.fieldAddr 1 (t 8)), L 47 (.load none (t 46)), M 48 10, L 49 (.indexSl 4 (t 47) (t 48)), L 50 (.fieldAddr 2 (t 49)), L 51 (.load none (t 50)), M 52 51, G 53 52 true (.mov (t 9)), G 54 52 true (.mov (t 10)), G 55 52 true (.indexSl 3 (t 53) (t 54)), G 56 52 true (.fieldAddr 0 (t 55)), G 57 52 true (.load none (t 56)), G 58 52 true (.bin .eql .none (t 57) (i 0)), K 59 (.pick (t 52) (t 58) (.const (.bool false)))])
 (.cond (t 59) (.seq (r [L 60 (.fieldAddr 1 (t 8)), L 61 (.load none (t 60)), M 62 10, L 63 (.indexSl 4 (t 61) (t 62)), L 64 (.fieldAddr 0 (t 63)), L 65 (.load none (t 64)), K 6 (.mov (i 7)), J 7 65])
 (.ret)) (.skip))))
 (r [M 44 10, L 45 (.bin .add .none (t 44) (i 1)), J 10 45]))))))
 (.seq (.seq (r [L 66 (.load (some 4) (t 8)), L 67 (.fieldAddr 2 (t 8)), L 68 (.load none (t 67)), L 69 (.call (.func 124) [(t 66), (t 68)]), J 11 69])
 (.seq (r [M 70 11, K 71 (.bin .geq .none (t 70) (i 0))])
 (.cond (t 71) (.seq (r [K 12 (.mov (i 0))])
 (.block 2 (.loop [] (.seq (.seq (r [M 72 12, M 73 2, K 74 (.bin .lss .none (t 72) (t 73))])
 (.cond (t 74) (.skip) (.exit 2)))
 (.seq (.block 3 (.seq (r [M 77 0, L 78 (.nilCheck (t 77)), L 79 (.fieldAddr 1 (t 78)), L 80 (.load none (t 79)), M 81 1, L 82 (.indexSl 1 (t 80) (t 81)), L 83 (.load none (t 82)), M 84 12, L 85 (.indexSl 2 (t 83) (t 84)), L 86 (.fieldAddr 1 (t 85)), L 87 (.load none (t 86)), M 88 11, L 89 (.indexSl 3 (t 87) (t 88)), L 90 (.load (some 3) (t 89)), M 91 9, M 92 11, L 93 (.indexSl 3 (t 91) (t 92)), L 94 (.load (some 3) (t 93)), K 95 (.call (.func 447) [(t 90), (t 94)])])
 (.cond (t 95) (.seq (r [L 96 (.fieldAddr 2 (t 8)), L 97 (.load none (t 96)), K 6 (.mov (i 8)), J 7 97])
 (.ret)) (.skip))))
 (r [M 75 12, L 76 (.bin .add .none (t 75) (i 1)), J 12 76])))))) (.skip))))
 (.seq (.seq (r [K 13 (.mov (i 0))])
 (.block 4 (.loop [] (.seq (.seq (r [M 98 13, M 99 9, L 100 (.len false (t 99)), K 101 (.bin .lss .none (t 98) (t 100))])
 (.cond (t 101) (.skip) (.exit 4)))
 (.seq (.block 5 (.seq (.seq (r [L 104 (.fieldAddr 1 (t 8)), L 105 (.load none (t 104)), M 106 13, L 107 (.indexSl 4 (t 105) (t 106)), L 108 (.fieldAddr 3 (t 107)), L 109 (.load none (t 108)), ⟨(some 110), true, .bin .eql .none (t 109) (.const (.string ⟨#[]⟩)), none⟩, M 111 110, G 112 111 false (.mov (t 9)), G 113 111 false (.mov (t 13)), G 114 111 false (.indexSl 3 (t 112) (t 113)), G 115 111 false (.fieldAddr 0 (t 114)), G 116 111 false (.load none (t 115)), G 117 111 false (.bin .eql .none (t 116) (i 0)), K 118 (.pick (t 111) (.const (.bool true)) (t 117))])
 (.cond (t 118) (.exit 5) (.skip)))
 (.seq (r [M 120 0, L 121 (.fieldAddr 1 (t 8)), L 122 (.load none (t 121)), M 123 13, L 124 (.indexSl 4 (t 122) (t 123)), L 125 (.fieldAddr 3 (t 124)), L 126 (.load none (t 125)), M 127 9, M 128 13, L 129 (.indexSl 3 (t 127) (t 128)), L 130 (.load (some 3) (t 129)), L 131 (.call (.func 448) [(t 120), (t 126), (t 130)]), M 119 131, L 132 (.extract (t 119) 0), L 133 (.extract (t 119) 1), M 14 132, J 15 133])
 (.seq (r [M 134 15, K 135 (.un .not (t 134))])
 (.cond (t 135) (.seq (r [L 136 (.fieldAddr 1 (t 8)), L 137 (.load none (t 136)), M 138 13, L 139 (.indexSl 4 (t 137) (t 138)), L 140 (.fieldAddr 0 (t 139)), L 141 (.load none (t 140)), K 6 (.mov (i 9)), J 7 141])
 (.ret)) (.skip))))))
 (r [M 102 13, L 103 (.bin .add .none (t 102) (i 1)), J 13 103]))))))
 (.seq (.seq (r [K 16 (.mov (i 0))])
 (.block 6 (.loop [] (.seq (.seq (r [M 142 16, L 143 (.fieldAddr 3 (t 8)), L 144 (.load none (t 143)), L 145 (.len false (t 144)), K 146 (.bin .lss .none (t 142) (t 145))])
 (.cond (t 146) (.skip) (.exit 6)))
 (.seq (.block 7 (.seq (r [L 149 (.load (some 4) (t 8)), L 150 (.fieldAddr 3 (t 8)), L 151 (.load none (t 150)), M 152 16, L 153 (.indexSl 2 (t 151) (t 152)), L 154 (.fieldAddr 1 (t 153)), L 155 (.load none (t 154)), L 156 (.call (.func 124) [(t 149), (t 155)]), J 17 156])
 (.seq (r [K 18 (.mov (i 0))])
 (.block 8 (.loop [] (.seq (.seq (r [M 157 18, M 158 2, K 159 (.bin .lss .none (t 157) (t 158))])
 (.cond (t 159) (.skip) (.exit 8)))
 (.seq (.block 9 (.seq (r [K 19 (.mov (.const (.bool true)))])
 (.seq (.seq (r [K 20 (.mov (i 0))])
 (.block 10 (.loop [] (.seq (.seq (r [M 162 20, L 163 (.fieldAddr 3 (t 8)), L 164 (.load none (t 163)), M 165 16, L 166 (.indexSl 2 (t 164) (t 165)), L 167 (.fieldAddr 0 (t 166)), L 168 (.load none (t 167)), L 169 (.len false (t 168)), K 170 (.bin .lss .none (t 162) (t 169))])
 (.cond (t 170) (.skip) (.exit 10)))
 (.seq (.block 11 (.seq (r [L 173 (.load (some 4) (t 8)), L 174 (.fieldAddr 3 (t 8)), L 175 (.load none (t 174)), M 176 16, L 177 (.indexSl 2 (t 175) (t 176)), L 178 (.fieldAddr 0 (t 177)), L 179 (.load none (t 178)), M 180 20, L 181 (.indexSl 1 (t 179) (t 180)), L 182 (.load none (t 181)), L 183 (.call (.func 124) [(t 173), (t 182)]), J 21 183])
 (r [M 184 19, M 185 184, G 186 185 true (.mov (t 0)), G 187 185 true (.nilCheck (t 186)), G 188 185 true (.fieldAddr 1 (t 187)), G 189 185 true (.load none (t 188)), G 190 185 true (.mov (t 1)), G 191 185 true (.indexSl 1 (t 189) (t 190)), G 192 185 true (.load none (t 191)), G 193 185 true (.mov (t 18)), G 194 185 true (.indexSl 2 (t 192) (t 193)), G 195 185 true (.fieldAddr 1 (t 194)), G 196 185 true (.load none (t 195)), G 197 185 true (.mov (t 21)), G 198 185 true (.indexSl 3 (t 196) (t 197)), G 199 185 true (.load (some 3) (t 198)), G 200 185 true (.mov (t 9)), G 201 185 true (.mov (t 21)), G 202 185 true (.indexSl 3 (t 200) (t 201)), G 203 185 true (.load (some 3) (t 202)), G 204 185 true (.call (.func 447) [(t 199), (t 203)]), L 205 (.pick (t 185) (t 204) (.const (.bool false))), J 19 205])))
 (r [M 171 20, L 172 (.bin .add .none (t 171) (i 1)), J 20 172]))))))
 (.seq (r [M 206 19, M 207 206, G 208 207 true (.mov (t 0)), G 209 207 true (.nilCheck (t 208)), G 210 207 true (.fieldAddr 1 (t 209)), G 211 207 true (.load none (t 210)), G 212 207 true (.mov (t 1)), G 213 207 true (.indexSl 1 (t 211) (t 212)), G 214 207 true (.load none (t 213)), G 215 207 true (.mov (t 18)), G 216 207 true (.indexSl 2 (t 214) (t 215)), G 217 207 true (.fieldAddr 1 (t 216)), G 218 207 true (.load none (t 217)), G 219 207 true (.mov (t 17)), G 220 207 true (.indexSl 3 (t 218) (t 219)), G 221 207 true (.load (some 3) (t 220)), G 222 207 true (.mov (t 9)), G 223 207 true (.mov (t 17)), G 224 207 true (.indexSl 3 (t 222) (t 223)), G 225 207 true (.load (some 3) (t 224)), G 226 207 true (.call (.func 447) [(t 221), (t 225)]), G 227 207 true (.un .not (t 226)), K 228 (.pick (t 207) (t 227) (.const (.bool false)))])
 (.cond (t 228) (.seq (r [L 229 (.fieldAddr 3 (t 8)), L 230 (.load none (t 229)), M 231 16, L 232 (.indexSl 2 (t 230) (t 231)), L 233 (.fieldAddr 1 (t 232)), L 234 (.load none (t 233)), K 6 (.mov (i 10)), J 7 234])
 (.ret)) (.skip))))))
 (r [M 160 18, L 161 (.bin .add .none (t 160) (i 1)), J 18 161]))))))))
 (r [M 147 16, L 148 (.bin .add .none (t 147) (i 1)), J 16 148]))))))
 (.seq (r [K 6 (.mov (i 0)), ⟨(some 7), false, .mov (.const (.string ⟨#[]⟩)), none⟩])
 (.ret)))))))⟩
def f445 : LFunc := ⟨9, [4, 0, 2], [.tmp 2],
 .seq (r [K 2 (.mov (i 0))])
 (.seq (.seq (r [M 3 0, K 4 (.bin .eql .ptr (t 3) (.const (.pointer none)))])
 (.cond (t 4) (.seq (r [K 2 (.mov (i 0))])
 (.ret)) (.skip)))
 (.seq (r [M 5 0, L 6 (.nilCheck (t 5)), L 7 (.fieldAddr 2 (t 6)), L 8 (.call (.func 449) [(t 7)]), J 2 8])
 (.ret)))⟩
def f446 : LFunc := ⟨2, [0], [.tmp 0],
 .seq (r [K 0 (.mov (.const (.bool false)))])
 (.seq (r [L 1 (.call (.func 450) []), J 0 1])
 (.ret))⟩
def f447 : LFunc := ⟨24, [3, 2, 1, 0, 4], [.tmp 4],
 .seq (r [K 2 (.box 3 (t 0) false), K 3 (.box 3 (t 1) false), K 4 (.mov (.const (.bool false)))])
 (.seq (r [L 5 (.fieldAddr 0 (t 2)), L 6 (.load none (t 5)), L 7 (.fieldAddr 0 (t 3)), L 8 (.load none (t 7)), L 9 (.bin .eql .none (t 6) (t 8)), M 10 9, G 11 10 true (.fieldAddr 1 (t 2)), G 12 10 true (.load none (t 11)), G 13 10 true (.fieldAddr 1 (t 3)), G 14 10 true (.load none (t 13)), G 15 10 true (.bin .eql .none (t 12) (t 14)), L 16 (.pick (t 10) (t 15) (.const (.bool false))), M 17 16, G 18 17 true (.fieldAddr 2 (t 2)), G 19 17 true (.load none (t 18)), G 20 17 true (.fieldAddr 2 (t 3)), G 21 17 true (.load none (t 20)), G 22 17 true (.bin .eql .none (t 19) (t 21)), L 23 (.pick (t 17) (t 22) (.const (.bool false))), J 4 23])
 (.ret))⟩
def f449 : LFunc := ⟨6, [0, 2], [.tmp 2],
 .seq (r [K 2 (.mov (i 0))])
 (.seq (r [M 3 0, L 4 (.call (.func 209) [(t 3)]), L 5 (.call (.func 451) [(t 4)]), J 2 5])
 (.ret))⟩
def f450 : LFunc := ⟨129, [14, 13, 12, 10, 11, 9, 8, 7, 5, 3, 4, 2, 18, 1, 0], [.tmp 0],
 .seq (r [K 0 (.mov (.const (.bool false)))])
 (.seq (r [L 15 (.call (.func 452) []), L 16 (.call (.func 106) [(t 15)]), J 1 16])
 (.seq (.seq (r [M 17 1, K 18 (.bin .eql .ptr (t 17) (.const (.pointer none)))])
 (.cond (t 18) (.seq (r [K 0 (.mov (.const (.bool false)))])
 (.ret)) (.skip)))
 (.seq (r [M 20 1, ⟨(some 21), true, .call (.func 453) [(i 7), (.const (.string ⟨#[120]⟩))], none⟩, L 22 (.call (.func 65) [(t 20), (t 21)]), M 19 22, L 23 (.extract (t 19) 0), L 24 (.extract (t 19) 1), J 2 23, J 3 24])
 (.seq (r [M 26 1, ⟨(some 27), true, .call (.func 453) [(i 8), (.const (.string ⟨#[121]⟩))], none⟩, L 28 (.call (.func 65) [(t 26), (t 27)]), M 25 28, L 29 (.extract (t 25) 0), L 30 (.extract (t 25) 1), J 4 29, J 5 30])
 (.seq (r [M 32 1, L 33 (.call (.func 65) [(t 32), (.const (.slice none 0 0))]), M 31 33, L 34 (.extract (t 31) 0), L 35 (.extract (t 31) 1), M 6 34, J 7 35])
 (.seq (r [M 36 1, M 37 2, L 38 (.call (.func 67) [(t 36), (t 37)]), J 8 38])
 (.seq (r [M 39 1, M 40 4, ⟨(some 41), true, .build [.int .i64 0, .int .i64 0, .string ⟨#[]⟩] [(0, 1, (i 2)), (2, 1, (.const (.string ⟨#[122]⟩)))], none⟩, ⟨(some 42), true, .call (.func 69) [(t 39), (t 40), (.const (.string ⟨#[122, 111, 110, 101]⟩)), (t 41)], none⟩, J 9 42])
 (.seq (r [M 44 1, M 45 4, L 46 (.call (.func 454) [(t 44), (t 45)]), M 43 46, L 47 (.extract (t 43) 0), L 48 (.extract (t 43) 1), J 10 47, J 11 48])
 (.seq (r [M 50 1, M 51 4, ⟨(some 52), true, .call (.func 48) [(t 50), (t 51), (.const (.string ⟨#[122, 111, 110, 101]⟩))], none⟩, M 49 52, L 53 (.extract (t 49) 0), L 54 (.extract (t 49) 1), ⟨(some 12), false, .alloc 3 [.int .i64 0, .int .i64 0, .string ⟨#[]⟩], none⟩, N (.store 3 (t 12) (t 53) false), J 13 54])
 (.seq (r [M 55 1, L 56 (.call (.func 425) [(t 55)]), J 14 56])
 (.seq (r [M 57 3, L 58 (.bin .eql .none (t 57) (i 0)), M 59 58, G 60 59 true (.mov (t 5)), G 61 59 true (.bin .eql .none (t 60) (i 0)), L 62 (.pick (t 59) (t 61) (.const (.bool false))), M 63 62, G 64 63 true (.mov (t 7)), G 65 63 true (.bin .eql .none (t 64) (i 1)), L 66 (.pick (t 63) (t 65) (.const (.bool false))), M 67 66, G 68 67 true (.mov (t 2)), G 69 67 true (.bin .eql .none (t 68) (i 0)), L 70 (.pick (t 67) (t 69) (.const (.bool false))), M 71 70, G 72 71 true (.mov (t 4)), G 73 71 true (.bin .eql .none (t 72) (i 1)), L 74 (.pick (t 71) (t 73) (.const (.bool false))), M 75 74, G 76 75 true (.mov (t 8)), L 77 (.pick (t 75) (t 76) (.const (.bool false))), M 78 77, G 79 78 true (.mov (t 9)), G 80 78 true (.bin .eql .none (t 79) (i 0)), L 81 (.pick (t 78) (t 80) (.const (.bool false))), M 82 81, G 83 82 true (.mov (t 11)), L 84 (.pick (t 82) (t 83) (.const (.bool false))), M 85 84, G 86 85 true (.mov (t 10)), G 87 85 true (.len false (t 86)), G 88 85 true (.bin .eql .none (t 87) (i 4)), L 89 (.pick (t 85) (t 88) (.const (.bool false))), M 90 89, G 91 90 true (.fieldAddr 2 (t 12)), G 92 90 true (.load none (t 91)), ⟨(some 93), true, .bin .eql .none (t 92) (.const (.string ⟨#[122]⟩)), (some (90, true))⟩, L 94 (.pick (t 90) (t 93) (.const (.bool false))), M 95 94, G 96 95 true (.mov (t 13)), L 97 (.pick (t 95) (t 96) (.const (.bool false))), M 98 97, G 99 98 true (.mov (t 1)), G 100 98 true (.call (.func 455) [(t 99)]), G 101 98 true (.bin .eql .none (t 100) (i 2)), L 102 (.pick (t 98) (t 101) (.const (.bool false))), M 103 102, G 104 103 true (.mov (t 1)), G 105 103 true (.call (.func 13) [(t 104)]), G 106 103 true (.call (.func 233) [(t 105)]), G 107 103 true (.bin .eql .none (t 106) (i 1)), L 108 (.pick (t 103) (t 107) (.const (.bool false))), M 109 108, G 110 109 true (.mov (t 1)), ⟨(some 111), true, .call (.func 439) [(t 110), (.const (.string ⟨#[99, 105, 116, 121]⟩))], (some (109, true))⟩, G 112 109 true (.bin .eql .none (t 111) (i 1)), L 113 (.pick (t 109) (t 112) (.const (.bool false))), M 114 113, G 115 114 true (.mov (t 14)), G 116 114 true (.bin .neq .ptr (t 115) (.const (.pointer none))), L 117 (.pick (t 114) (t 116) (.const (.bool false))), M 118 117, G 119 118 true (.mov (t 14)), G 120 118 true (.call (.func 455) [(t 119)]), G 121 118 true (.bin .eql .none (t 120) (i 2)), L 122 (.pick (t 118) (t 121) (.const (.bool false))), M 123 122, G 124 123 true (.mov (t 1)), G 125 123 true (.call (.func 97) [(t 124)]), G 126 123 true (.field none 0 (t 125)), ⟨(some 127), true, .bin .eql .none (t 126) (.const (.string ⟨#[115, 104, 111, 112]⟩)), (some (123, true))⟩, L 128 (.pick (t 123) (t 127) (.const (.bool false))), J 0 128])
 (.ret))))))))))))⟩
def f451 : LFunc := ⟨10, [4, 0, 2], [.tmp 2],
 .seq (r [K 2 (.mov (i 0))])
 (.seq (.seq (r [M 3 0, K 4 (.bin .eql .ptr (t 3) (.const (.pointer none)))])
 (.cond (t 4) (.seq (r [K 2 (.mov (i 0))])
 (.ret)) (.skip)))
 (.seq (r [M 5 0, L 6 (.nilCheck (t 5)), L 7 (.fieldAddr 1 (t 6)), L 8 (.load none (t 7)), L 9 (.len false (t 8)), J 2 9])
 (.ret)))⟩
def f452 : LFunc := ⟨5, [0], [.cell 0 (some 4)],
 .seq (r [⟨(some 0), false, .alloc 4 [.string ⟨#[]⟩, .slice none 0 0, .string ⟨#[]⟩, .slice none 0 0], none⟩])
 (.seq (r [L 1 (.call (.func 60) []), L 2 (.indexSl 4 (t 1) (i 1)), L 3 (.load (some 4) (t 2)), L 4 (.call (.func 108) [(t 3)]), N (.store 4 (t 0) (t 4) false)])
 (.ret))⟩
def f453 : LFunc := ⟨12, [1, 0, 4], [.tmp 4],
 .seq (r [K 4 (.mov (.const (.slice none 0 0)))])
 (.seq (r [M 5 0, ⟨(some 6), true, .build [.int .i64 0, .int .i64 0, .string ⟨#[]⟩] [(0, 1, (i 1)), (1, 1, (t 5))], none⟩, M 7 1, ⟨(some 8), true, .build [.int .i64 0, .int .i64 0, .string ⟨#[]⟩] [(0, 1, (i 2)), (2, 1, (t 7))], none⟩, ⟨(some 9), true, .build [.int .i64 0, .int .i64 0, .string ⟨#[]⟩] [], none⟩, ⟨(some 10), true, .build [.int .i64 0, .int .i64 0, .string ⟨#[]⟩] [], none⟩, ⟨(some 11), true, .buildSlice 3 4 [.int .i64 0, .int .i64 0, .string ⟨#[]⟩] [(0, 3, (t 6)), (3, 3, (t 8)), (6, 3, (t 9)), (9, 3, (t 10))] false, none⟩, J 4 11])
 (.ret))⟩
def f454 : LFunc := ⟨43, [9, 6, 8, 25, 28, 26, 27, 21, 1, 0, 4, 5], [.tmp 4, .tmp 5],
 .seq (r [K 4 (.mov (.const (.slice none 0 0))), K 5 (.mov (.const (.bool false)))])
 (.seq (.seq (r [M 11 0, L 12 (.bin .eql .ptr (t 11) (.const (.pointer none))), M 13 12, G 14 13 false (.mov (t 0)), G 15 13 false (.nilCheck (t 14)), G 16 13 false (.fieldAddr 5 (t 15)), G 17 13 false (.load (some 1) (t 16)), G 18 13 false (.mov (t 1)), G 19 13 false (.call (.func 46) [(t 17), (t 18)]), G 20 13 false (.un .not (t 19)), K 21 (.pick (t 13) (.const (.bool true)) (t 20))])
 (.cond (t 21) (.seq (r [K 4 (.mov (.const (.slice none 0 0))), K 5 (.mov (.const (.bool false)))])
 (.ret)) (.skip)))
 (.seq (r [K 6 (.mov (.const (.slice none 0 0)))])
 (.seq (.seq (r [M 22 0, L 23 (.nilCheck (t 22)), L 24 (.fieldAddr 4 (t 23)), K 25 (.load none (t 24)), K 26 (.len false (t 25)), K 27 (.mov (i 0))])
 (.block 0 (.loop [] (.seq (r [K 28 (.bin .lss .none (t 27) (t 26))])
 (.seq (.cond (t 28) (.skip) (.exit 0))
 (.seq (.block 1 (.seq (r [L 29 (.indexSl 1 (t 25) (t 27)), L 30 (.load none (t 29)), J 8 30])
 (.seq (r [M 32 8, M 33 1, L 34 (.call (.func 96) [(t 32), (t 33)]), M 31 34, L 35 (.extract (t 31) 0), L 36 (.extract (t 31) 1), ⟨(some 9), false, .alloc 3 [.int .i64 0, .int .i64 0, .string ⟨#[]⟩], none⟩, N (.store 3 (t 9) (t 35) false), M 10 36])
 (r [M 37 6, L 38 (.load (some 3) (t 9)), ⟨(some 39), true, .buildSlice 3 1 [.int .i64 0, .int .i64 0, .string ⟨#[]⟩] [(0, 3, (t 38))] false, none⟩, L 40 (.append 3 32 (t 37) (t 39)), J 6 40]))))
 (r [L 41 (.bin .add .none (t 27) (i 1)), J 27 41])))))))
 (.seq (r [M 42 6, J 4 42, K 5 (.mov (.const (.bool true)))])
 (.ret)))))⟩
def f455 : LFunc := ⟨9, [4, 0, 2], [.tmp 2],
 .seq (r [K 2 (.mov (i 0))])
 (.seq (.seq (r [M 3 0, K 4 (.bin .eql .ptr (t 3) (.const (.pointer none)))])
 (.cond (t 4) (.seq (r [K 2 (.mov (i 0))])
 (.ret)) (.skip)))
 (.seq (r [M 5 0, L 6 (.nilCheck (t 5)), L 7 (.fieldAddr 6 (t 6)), L 8 (.load none (t 7)), J 2 8])
 (.ret)))⟩
end Go.Proofs.YtojbggomekgkcaaGreat.C
