import Derived.Test.YtojbggomekgkcaaGreatEvD
/- The compiled texts of the functions that the closed runs reach. Printed by a program. -/
namespace Go.Proofs.YtojbggomekgkcaaGreat.C
open Go Go.Ev Go.Proofs
def t (n : Nat) : Operand := .tmp n
def i (n : Int) : Operand := .const (.int .i64 n)
def L (d : Nat) (o : LOp) : LOper := ⟨some d, true, o, none⟩
def K (d : Nat) (o : LOp) : LOper := ⟨some d, false, o, none⟩
def N (o : LOp) : LOper := ⟨none, false, o, none⟩
def M (d x : Nat) : LOper := ⟨some d, true, .mov (.tmp x), none⟩
def J (d x : Nat) : LOper := ⟨some d, false, .mov (.tmp x), none⟩
def G (d g : Nat) (b : Bool) (o : LOp) : LOper := ⟨some d, true, o, some (g, b)⟩
def r (l : List LOper) : LCode := .region l []
def f3 : LFunc := ⟨34, [3, 2, 1, 0], [.tmp 0],
 .seq (r [K 0 (.mov (.const (.bool false)))])
 (.seq (r [K 1 (.mov (.const (.pointer none)))])
 (.seq (r [M 4 1, L 5 (.call (.func 5) []), L 6 (.call (.func 4) [(t 4), (t 5)])])
 (.seq (r [M 8 1, L 9 (.call (.func 6) [(t 8)]), M 7 9, L 10 (.extract (t 7) 0), L 11 (.extract (t 7) 1), J 2 10, J 3 11])
 (.seq (r [L 12 (.call (.func 7) []), M 13 12, G 14 13 true (.mov (t 1)), G 15 13 true (.call (.func 8) [(t 14)]), G 16 13 true (.len false (t 15)), G 17 13 true (.bin .eql .none (t 16) (i 0)), L 18 (.pick (t 13) (t 17) (.const (.bool false))), M 19 18, G 20 19 true (.mov (t 2)), G 21 19 true (.len false (t 20)), G 22 19 true (.bin .eql .none (t 21) (i 0)), L 23 (.pick (t 19) (t 22) (.const (.bool false))), M 24 23, G 25 24 true (.mov (t 3)), G 26 24 true (.bin .eql .none (t 25) (i 6)), L 27 (.pick (t 24) (t 26) (.const (.bool false))), M 28 27, G 29 28 true (.mov (t 1)), G 30 28 true (.call (.func 9) [(t 29)]), G 31 28 true (.field none 0 (t 30)), ⟨(some 32), true, .bin .eql .none (t 31) (.const (.string ⟨#[]⟩)), (some (28, true))⟩, L 33 (.pick (t 28) (t 32) (.const (.bool false))), J 0 33])
 (.ret)))))⟩
def f4 : LFunc := ⟨134, [14, 123, 122, 121, 112, 11, 9, 10, 70, 73, 71, 72, 7, 48, 8, 6, 4, 5, 27, 26, 3, 16, 2, 1, 0], [],
 .seq (r [K 2 (.box 1 (t 0) false), K 3 (.box 1 (t 1) false)])
 (.seq (.seq (r [L 15 (.load none (t 2)), K 16 (.bin .eql .ptr (t 15) (.const (.pointer none)))])
 (.cond (t 16) (.ret) (.skip)))
 (.seq (r [L 17 (.call (.func 10) [(.func 11)]), K 4 (.alloc 1 [.pointer none]), N (.store 1 (t 4) (t 17) false)])
 (.seq (.seq (r [L 18 (.load none (t 3)), L 19 (.load none (t 2)), L 20 (.nilCheck (t 19)), L 21 (.fieldAddr 0 (t 20)), L 22 (.fieldAddr 1 (t 21)), L 23 (.load none (t 22)), L 24 (.call (.func 12) [(t 18), (t 23)]), L 25 (.call (.func 13) [(t 24)]), K 26 (.call (.func 14) [(t 25)])])
 (.block 0 (.rangeFunc (t 26) [27] (r [J 5 27]) (.block 1 (.seq (r [L 28 (.load none (t 3)), L 29 (.load none (t 2)), L 30 (.nilCheck (t 29)), L 31 (.fieldAddr 0 (t 30)), L 32 (.fieldAddr 1 (t 31)), L 33 (.load none (t 32)), M 34 5, L 35 (.load none (t 2)), L 36 (.nilCheck (t 35)), L 37 (.fieldAddr 0 (t 36)), L 38 (.fieldAddr 2 (t 37)), L 39 (.load none (t 38)), L 40 (.call (.func 15) [(t 28), (t 33), (t 34), (t 39)]), J 6 40])
 (.seq (r [L 42 (.load none (t 4)), M 43 6, L 44 (.call (.func 16) [(t 42), (t 43)]), M 41 44, L 45 (.extract (t 41) 0), L 46 (.extract (t 41) 1), J 7 45, J 8 46])
 (.seq (.seq (r [M 47 8, K 48 (.un .not (t 47))])
 (.cond (t 48) (.seq (r [L 49 (.load none (t 2)), M 50 6, M 51 5, L 52 (.call (.func 17) [(t 49), (t 50), (t 51)]), J 7 52])
 (r [L 53 (.load none (t 4)), M 54 6, M 55 7, L 56 (.call (.func 18) [(t 53), (t 54), (t 55)])])) (.skip)))
 (.seq (r [M 57 7, L 58 (.nilCheck (t 57)), L 59 (.fieldAddr 0 (t 58)), L 60 (.fieldAddr 1 (t 59)), L 61 (.load none (t 60)), L 62 (.bin .add .none (t 61) (i 1)), L 63 (.nilCheck (t 57)), L 64 (.fieldAddr 0 (t 63)), L 65 (.fieldAddr 1 (t 64)), N (.store 1 (t 65) (t 62) false)])
 (.seq (r [L 66 (.load none (t 2)), L 67 (.nilCheck (t 66)), L 68 (.fieldAddr 0 (t 67)), L 69 (.fieldAddr 3 (t 68)), K 70 (.load none (t 69)), K 71 (.len false (t 70)), K 72 (.mov (i 0))])
 (.block 2 (.loop [] (.seq (r [K 73 (.bin .lss .none (t 72) (t 71))])
 (.seq (.cond (t 73) (.skip) (.exit 2))
 (.seq (.block 3 (.seq (r [M 74 72, L 75 (.indexSl 2 (t 70) (t 72)), L 76 (.load (some 2) (t 75)), K 10 (.alloc 2 [.int .i64 0, .slice none 0 0]), J 9 74, N (.store 2 (t 10) (t 76) false)])
 (.seq (r [L 78 (.load none (t 3)), L 79 (.load none (t 2)), L 80 (.nilCheck (t 79)), L 81 (.fieldAddr 0 (t 80)), L 82 (.fieldAddr 1 (t 81)), L 83 (.load none (t 82)), M 84 5, L 85 (.fieldAddr 1 (t 10)), L 86 (.load none (t 85)), L 87 (.call (.func 19) [(t 78), (t 83), (t 84), (t 86)]), M 77 87, L 88 (.extract (t 77) 0), L 89 (.extract (t 77) 1), ⟨(some 11), false, .alloc 3 [.int .i64 0, .int .i64 0, .string ⟨#[]⟩], none⟩, N (.store 3 (t 11) (t 88) false), M 12 89])
 (r [M 90 7, L 91 (.nilCheck (t 90)), L 92 (.fieldAddr 0 (t 91)), L 93 (.fieldAddr 2 (t 92)), L 94 (.load none (t 93)), M 95 9, L 96 (.indexSl 1 (t 94) (t 95)), L 97 (.load none (t 96)), L 98 (.load (some 3) (t 11)), L 99 (.call (.func 20) [(t 97), (t 98), (i 1)])]))))
 (r [L 100 (.bin .add .none (t 72) (i 1)), J 72 100])))))))))))))))
 (.seq (.seq (r [L 101 (.load none (t 2)), L 102 (.nilCheck (t 101)), L 103 (.fieldAddr 0 (t 102)), L 104 (.fieldAddr 2 (t 103)), L 105 (.load none (t 104)), L 106 (.len false (t 105)), L 107 (.bin .eql .none (t 106) (i 0)), M 108 107, G 109 108 true (.load none (t 4)), G 110 108 true (.call (.func 21) [(t 109)]), G 111 108 true (.bin .eql .none (t 110) (i 0)), K 112 (.pick (t 108) (t 111) (.const (.bool false)))])
 (.cond (t 112) (.region [L 113 (.load none (t 4)), L 114 (.load none (t 2)), L 115 (.call (.func 17) [(t 114), (.const (.slice none 0 0)), (i 0)]), L 116 (.call (.func 18) [(t 113), (.const (.slice none 0 0)), (t 115)])] [(0, 2)]) (.skip)))
 (.seq (r [L 117 (.load none (t 2)), L 118 (.nilCheck (t 117)), L 119 (.fieldAddr 4 (t 118)), N (.store 1 (t 119) (.const (.slice none 0 0)) false)])
 (.seq (r [L 120 (.load none (t 4)), K 121 (.call (.func 22) [(t 120)])])
 (.block 4 (.rangeFunc (t 121) [122, 123] (r [J 14 123]) (.block 5 (.region [L 124 (.load none (t 2)), L 125 (.load none (t 2)), L 126 (.nilCheck (t 125)), L 127 (.fieldAddr 4 (t 126)), L 128 (.load none (t 127)), M 129 14, L 130 (.buildSlice 1 1 [.pointer none] [(0, 1, (t 129))] false), L 131 (.append 1 8 (t 128) (t 130)), L 132 (.nilCheck (t 124)), L 133 (.fieldAddr 4 (t 132)), N (.store 1 (t 133) (t 131) false)] [(0, 7)]))))))))))⟩
def f5 : LFunc := ⟨5, [0], [.tmp 0],
 .seq (r [K 0 (.mov (.const (.pointer none)))])
 (.seq (r [L 1 (.call (.func 23) []), L 2 (.makeMap), L 3 (.build [.pointer none, .map none] [(0, 1, (t 1)), (1, 1, (t 2))]), L 4 (.box 2 (t 3) false), J 0 4])
 (.ret))⟩
def f6 : LFunc := ⟨57, [4, 10, 7, 42, 11, 9, 30, 33, 31, 32, 6, 15, 18, 16, 17, 13, 0, 2, 3], [.tmp 2, .tmp 3],
 .seq (r [K 2 (.mov (.const (.slice none 0 0))), K 3 (.mov (i 0))])
 (.seq (.seq (r [M 12 0, K 13 (.bin .eql .ptr (t 12) (.const (.pointer none)))])
 (.cond (t 13) (.seq (r [K 2 (.mov (.const (.slice none 0 0))), K 3 (.mov (i 6))])
 (.ret)) (.skip)))
 (.seq (r [K 4 (.mov (.const (.slice none 0 0)))])
 (.seq (.seq (r [M 14 0, K 15 (.call (.func 8) [(t 14)]), K 16 (.len false (t 15)), K 17 (.mov (i 0))])
 (.block 0 (.loop [] (.seq (r [K 18 (.bin .lss .none (t 17) (t 16))])
 (.seq (.cond (t 18) (.skip) (.exit 0))
 (.seq (.block 1 (.seq (r [L 19 (.indexSl 3 (t 15) (t 17)), L 20 (.load (some 3) (t 19)), K 6 (.alloc 3 [.slice none 0 0, .int .i64 0, .slice none 0 0]), N (.store 3 (t 6) (t 20) false)])
 (.seq (r [L 21 (.fieldAddr 0 (t 6)), L 22 (.load none (t 21)), L 23 (.len false (t 22)), L 24 (.bin .shl .none (i 1) (t 23)), L 25 (.bin .sub .none (t 24) (i 1)), L 26 (.fieldAddr 0 (t 6)), L 27 (.load none (t 26)), L 28 (.build [.int .i64 0, .slice none 0 0] [(0, 1, (t 25)), (1, 1, (t 27))]), K 7 (.alloc 2 [.int .i64 0, .slice none 0 0]), N (.store 2 (t 7) (t 28) false)])
 (.seq (.seq (r [L 29 (.fieldAddr 2 (t 6)), K 30 (.load none (t 29)), K 31 (.len false (t 30)), K 32 (.mov (i 0))])
 (.block 2 (.loop [] (.seq (r [K 33 (.bin .lss .none (t 32) (t 31))])
 (.seq (.cond (t 33) (.skip) (.exit 2))
 (.seq (.block 3 (.seq (r [L 34 (.indexSl 1 (t 30) (t 32)), L 35 (.load none (t 34)), J 9 35])
 (.seq (r [M 37 9, L 38 (.call (.func 24) [(t 37)]), M 36 38, L 39 (.extract (t 36) 0), L 40 (.extract (t 36) 1), ⟨(some 10), false, .alloc 3 [.int .i64 0, .int .i64 0, .string ⟨#[]⟩], none⟩, N (.store 3 (t 10) (t 39) false), J 11 40])
 (.seq (.seq (r [M 41 11, K 42 (.bin .neq .none (t 41) (i 0))])
 (.cond (t 42) (.seq (r [M 43 11, K 2 (.mov (.const (.slice none 0 0))), J 3 43])
 (.ret)) (.skip)))
 (r [L 44 (.fieldAddr 1 (t 7)), L 45 (.load none (t 44)), L 46 (.load (some 3) (t 10)), ⟨(some 47), true, .buildSlice 3 1 [.int .i64 0, .int .i64 0, .string ⟨#[]⟩] [(0, 3, (t 46))] false, none⟩, L 48 (.append 3 32 (t 45) (t 47)), L 49 (.fieldAddr 1 (t 7)), N (.store 1 (t 49) (t 48) false)])))))
 (r [L 50 (.bin .add .none (t 32) (i 1)), J 32 50])))))))
 (r [M 51 4, L 52 (.load (some 2) (t 7)), L 53 (.buildSlice 2 1 [.int .i64 0, .slice none 0 0] [(0, 2, (t 52))] false), L 54 (.append 2 32 (t 51) (t 53)), J 4 54])))))
 (r [L 55 (.bin .add .none (t 17) (i 1)), J 17 55])))))))
 (.seq (r [M 56 4, J 2 56, K 3 (.mov (i 0))])
 (.ret)))))⟩
def f7 : LFunc := ⟨154, [13, 12, 11, 9, 6, 98, 8, 7, 2, 42, 4, 5, 3, 24, 1, 0], [.tmp 0],
 .seq (r [K 0 (.mov (.const (.bool false)))])
 (.seq (r [L 15 (.call (.func 25) []), M 14 15, L 16 (.extract (t 14) 0), L 17 (.extract (t 14) 1), J 1 16, J 2 17])
 (.seq (.seq (r [M 18 1, L 19 (.bin .eql .ptr (t 18) (.const (.pointer none))), M 20 19, G 21 20 false (.mov (t 1)), ⟨(some 22), true, .call (.func 12) [(t 21), (.const (.string ⟨#[108, 97, 110, 100]⟩))], (some (20, false))⟩, G 23 20 false (.bin .eql .ptr (t 22) (.const (.pointer none))), K 24 (.pick (t 20) (.const (.bool true)) (t 23))])
 (.cond (t 24) (.seq (r [K 0 (.mov (.const (.bool false)))])
 (.ret)) (.skip)))
 (.seq (r [⟨(some 25), true, .buildSlice 1 1 [.string ⟨#[]⟩] [(0, 1, (.const (.string ⟨#[110, 97, 109, 101]⟩)))] false, none⟩, L 26 (.buildSlice 1 1 [.slice none 0 0] [(0, 1, (t 25))] false), ⟨(some 27), true, .buildSlice 1 1 [.string ⟨#[]⟩] [(0, 1, (.const (.string ⟨#[105, 100]⟩)))] false, none⟩, L 28 (.build [.int .i64 0, .slice none 0 0] [(0, 1, (i 5)), (1, 1, (t 27))]), L 29 (.buildSlice 2 1 [.int .i64 0, .slice none 0 0] [(0, 2, (t 28))] false), ⟨(some 30), true, .build [.string ⟨#[]⟩, .string ⟨#[]⟩, .slice none 0 0, .slice none 0 0] [(0, 1, (.const (.string ⟨#[115]⟩))), (1, 1, (.const (.string ⟨#[108, 97, 110, 100]⟩))), (2, 1, (t 26)), (3, 1, (t 29))], none⟩, ⟨(some 3), false, .alloc 4 [.string ⟨#[]⟩, .string ⟨#[]⟩, .slice none 0 0, .slice none 0 0], none⟩, N (.store 4 (t 3) (t 30) false)])
 (.seq (r [M 32 1, L 33 (.load (some 4) (t 3)), L 34 (.call (.func 26) [(t 32), (t 33)]), M 31 34, L 35 (.extract (t 31) 0), L 36 (.extract (t 31) 1), J 4 35, J 5 36])
 (.seq (.seq (r [M 37 5, L 38 (.bin .neq .none (t 37) (i 0)), M 39 38, G 40 39 false (.mov (t 4)), G 41 39 false (.bin .eql .ptr (t 40) (.const (.pointer none))), K 42 (.pick (t 39) (.const (.bool true)) (t 41))])
 (.cond (t 42) (.seq (r [K 0 (.mov (.const (.bool false)))])
 (.ret)) (.skip)))
 (.seq (r [M 43 4, L 44 (.call (.func 8) [(t 43)]), L 45 (.len false (t 44)), J 6 45])
 (.seq (r [M 46 1, M 47 2, ⟨(some 48), true, .build [.int .i64 0, .int .i64 0, .string ⟨#[]⟩] [(0, 1, (i 1)), (1, 1, (i 4))], none⟩, ⟨(some 49), true, .build [.int .i64 0, .int .i64 0, .string ⟨#[]⟩] [], none⟩, ⟨(some 50), true, .buildSlice 3 2 [.int .i64 0, .int .i64 0, .string ⟨#[]⟩] [(0, 3, (t 48)), (3, 3, (t 49))] false, none⟩, ⟨(some 51), true, .build [.int .i64 0, .string ⟨#[]⟩, .int .i64 0, .string ⟨#[]⟩, .slice none 0 0] [(0, 1, (i 1)), (1, 1, (.const (.string ⟨#[108, 97, 110, 100]⟩))), (4, 1, (t 50))], none⟩, ⟨(some 52), true, .build [.int .i64 0, .int .i64 0, .string ⟨#[]⟩] [(0, 1, (i 1)), (1, 1, (i 9))], none⟩, ⟨(some 53), true, .build [.int .i64 0, .int .i64 0, .string ⟨#[]⟩] [], none⟩, ⟨(some 54), true, .buildSlice 3 2 [.int .i64 0, .int .i64 0, .string ⟨#[]⟩] [(0, 3, (t 52)), (3, 3, (t 53))] false, none⟩, ⟨(some 55), true, .build [.int .i64 0, .string ⟨#[]⟩, .int .i64 0, .string ⟨#[]⟩, .slice none 0 0] [(0, 1, (i 1)), (1, 1, (.const (.string ⟨#[108, 97, 110, 100]⟩))), (4, 1, (t 54))], none⟩, ⟨(some 56), true, .buildSlice 5 2 [.int .i64 0, .string ⟨#[]⟩, .int .i64 0, .string ⟨#[]⟩, .slice none 0 0] [(0, 5, (t 51)), (5, 5, (t 55))] false, none⟩, L 57 (.call (.func 27) [(t 46), (t 47), (t 56)])])
 (.seq (r [M 58 4, M 59 1, L 60 (.call (.func 4) [(t 58), (t 59)])])
 (.seq (r [M 61 4, L 62 (.call (.func 8) [(t 61)]), J 7 62])
 (.seq (r [M 64 4, L 65 (.call (.func 6) [(t 64)]), M 63 65, L 66 (.extract (t 63) 0), L 67 (.extract (t 63) 1), J 8 66, J 9 67])
 (.seq (r [L 68 (.fieldAddr 1 (t 3)), ⟨none, false, .store 1 (t 68) (.const (.string ⟨#[120]⟩)) false, none⟩])
 (.seq (r [M 70 1, L 71 (.load (some 4) (t 3)), L 72 (.call (.func 26) [(t 70), (t 71)]), M 69 72, L 73 (.extract (t 69) 0), L 74 (.extract (t 69) 1), M 10 73, J 11 74])
 (.seq (.seq (r [M 75 7, L 76 (.len false (t 75)), L 77 (.bin .neq .none (t 76) (i 1)), M 78 77, G 79 78 false (.mov (t 8)), G 80 78 false (.len false (t 79)), G 81 78 false (.bin .neq .none (t 80) (i 1)), L 82 (.pick (t 78) (.const (.bool true)) (t 81)), M 83 82, G 84 83 false (.mov (t 8)), G 85 83 false (.indexSl 2 (t 84) (i 0)), G 86 83 false (.fieldAddr 1 (t 85)), G 87 83 false (.load none (t 86)), G 88 83 false (.len false (t 87)), G 89 83 false (.bin .neq .none (t 88) (i 2)), L 90 (.pick (t 83) (.const (.bool true)) (t 89)), M 91 90, G 92 91 false (.mov (t 7)), G 93 91 false (.indexSl 3 (t 92) (i 0)), G 94 91 false (.fieldAddr 2 (t 93)), G 95 91 false (.load none (t 94)), G 96 91 false (.len false (t 95)), G 97 91 false (.bin .neq .none (t 96) (i 1)), K 98 (.pick (t 91) (.const (.bool true)) (t 97))])
 (.cond (t 98) (.seq (r [K 0 (.mov (.const (.bool false)))])
 (.ret)) (.skip)))
 (.seq (r [M 100 7, L 101 (.indexSl 3 (t 100) (i 0)), L 102 (.fieldAddr 2 (t 101)), L 103 (.load none (t 102)), L 104 (.indexSl 1 (t 103) (i 0)), L 105 (.load none (t 104)), L 106 (.call (.func 24) [(t 105)]), M 99 106, L 107 (.extract (t 99) 0), L 108 (.extract (t 99) 1), ⟨(some 12), false, .alloc 3 [.int .i64 0, .int .i64 0, .string ⟨#[]⟩], none⟩, N (.store 3 (t 12) (t 107) false), J 13 108])
 (.seq (r [L 109 (.call (.func 28) []), M 110 109, G 111 110 true (.mov (t 6)), G 112 110 true (.bin .eql .none (t 111) (i 0)), L 113 (.pick (t 110) (t 112) (.const (.bool false))), M 114 113, G 115 114 true (.mov (t 7)), G 116 114 true (.indexSl 3 (t 115) (i 0)), G 117 114 true (.fieldAddr 1 (t 116)), G 118 114 true (.load none (t 117)), G 119 114 true (.bin .eql .none (t 118) (i 2)), L 120 (.pick (t 114) (t 119) (.const (.bool false))), M 121 120, G 122 121 true (.mov (t 9)), G 123 121 true (.bin .eql .none (t 122) (i 0)), L 124 (.pick (t 121) (t 123) (.const (.bool false))), M 125 124, G 126 125 true (.mov (t 8)), G 127 125 true (.indexSl 2 (t 126) (i 0)), G 128 125 true (.fieldAddr 1 (t 127)), G 129 125 true (.load none (t 128)), G 130 125 true (.indexSl 3 (t 129) (i 1)), G 131 125 true (.fieldAddr 1 (t 130)), G 132 125 true (.load none (t 131)), G 133 125 true (.bin .eql .none (t 132) (i 9)), L 134 (.pick (t 125) (t 133) (.const (.bool false))), M 135 134, G 136 135 true (.mov (t 11)), G 137 135 true (.bin .eql .none (t 136) (i 3)), L 138 (.pick (t 135) (t 137) (.const (.bool false))), M 139 138, G 140 139 true (.fieldAddr 1 (t 12)), G 141 139 true (.load none (t 140)), G 142 139 true (.bin .eql .none (t 141) (i 9)), L 143 (.pick (t 139) (t 142) (.const (.bool false))), M 144 143, G 145 144 true (.mov (t 13)), G 146 144 true (.bin .eql .none (t 145) (i 0)), L 147 (.pick (t 144) (t 146) (.const (.bool false))), M 148 147, G 149 148 true (.mov (t 4)), G 150 148 true (.call (.func 9) [(t 149)]), G 151 148 true (.field none 1 (t 150)), ⟨(some 152), true, .bin .eql .none (t 151) (.const (.string ⟨#[108, 97, 110, 100]⟩)), (some (148, true))⟩, L 153 (.pick (t 148) (t 152) (.const (.bool false))), J 0 153])
 (.ret))))))))))))))))⟩
def f8 : LFunc := ⟨53, [3, 6, 34, 32, 33, 5, 4, 10, 8, 9, 0, 2], [.tmp 2],
 .seq (r [K 2 (.mov (.const (.slice none 0 0)))])
 (.seq (r [K 3 (.mov (.const (.slice none 0 0)))])
 (.seq (.seq (r [M 7 0, K 8 (.call (.func 29) [(t 7)]), K 9 (.mov (i 0))])
 (.block 0 (.loop [] (.seq (r [K 10 (.bin .lss .none (t 9) (t 8))])
 (.seq (.cond (t 10) (.skip) (.exit 0))
 (.seq (.block 1 (.seq (r [M 11 9, J 4 11])
 (.seq (r [M 12 0, L 13 (.nilCheck (t 12)), L 14 (.fieldAddr 4 (t 13)), L 15 (.load none (t 14)), M 16 4, L 17 (.indexSl 1 (t 15) (t 16)), L 18 (.load none (t 17)), L 19 (.nilCheck (t 18)), L 20 (.fieldAddr 0 (t 19)), L 21 (.load (some 3) (t 20)), K 5 (.alloc 3 [.slice none 0 0, .int .i64 0, .slice none 0 0]), N (.store 3 (t 5) (t 21) false)])
 (.seq (r [L 22 (.fieldAddr 0 (t 5)), L 23 (.load none (t 22)), L 24 (.call (.func 30) [(t 23)]), L 25 (.fieldAddr 0 (t 5)), N (.store 1 (t 25) (t 24) false)])
 (.seq (r [L 26 (.fieldAddr 2 (t 5)), L 27 (.load none (t 26)), L 28 (.call (.func 31) [(t 27)]), L 29 (.fieldAddr 2 (t 5)), N (.store 1 (t 29) (t 28) false)])
 (.seq (.seq (r [L 30 (.fieldAddr 2 (t 5)), L 31 (.load none (t 30)), K 32 (.len false (t 31)), K 33 (.mov (i 0))])
 (.block 2 (.loop [] (.seq (r [K 34 (.bin .lss .none (t 33) (t 32))])
 (.seq (.cond (t 34) (.skip) (.exit 2))
 (.seq (.block 3 (.seq (r [M 35 33, J 6 35])
 (.region [L 36 (.fieldAddr 2 (t 5)), L 37 (.load none (t 36)), M 38 6, L 39 (.fieldAddr 2 (t 5)), L 40 (.load none (t 39)), M 41 6, L 42 (.indexSl 1 (t 40) (t 41)), L 43 (.load none (t 42)), L 44 (.call (.func 32) [(t 43)]), L 45 (.indexSl 1 (t 37) (t 38)), N (.store 1 (t 45) (t 44) false)] [(1, 8)])))
 (r [L 46 (.bin .add .none (t 33) (i 1)), J 33 46])))))))
 (r [M 47 3, L 48 (.load (some 3) (t 5)), L 49 (.buildSlice 3 1 [.slice none 0 0, .int .i64 0, .slice none 0 0] [(0, 3, (t 48))] false), L 50 (.append 3 56 (t 47) (t 49)), J 3 50])))))))
 (r [L 51 (.bin .add .none (t 9) (i 1)), J 9 51])))))))
 (.seq (r [M 52 3, J 2 52])
 (.ret))))⟩
def f9 : LFunc := ⟨11, [4, 0, 2], [.cell 2 (some 4)],
 .seq (r [⟨(some 2), false, .alloc 4 [.string ⟨#[]⟩, .string ⟨#[]⟩, .slice none 0 0, .slice none 0 0], none⟩])
 (.seq (.seq (r [M 3 0, K 4 (.bin .eql .ptr (t 3) (.const (.pointer none)))])
 (.cond (t 4) (.seq (r [⟨(some 5), true, .build [.string ⟨#[]⟩, .string ⟨#[]⟩, .slice none 0 0, .slice none 0 0] [], none⟩, N (.store 4 (t 2) (t 5) false)])
 (.ret)) (.skip)))
 (.seq (r [M 6 0, L 7 (.nilCheck (t 6)), L 8 (.fieldAddr 0 (t 7)), L 9 (.load (some 4) (t 8)), L 10 (.call (.func 33) [(t 9)]), N (.store 4 (t 2) (t 10) false)])
 (.ret)))⟩
def f10 : LFunc := ⟨6, [0, 2], [.tmp 2],
 .seq (r [K 2 (.mov (.const (.pointer none)))])
 (.seq (r [M 3 0, L 4 (.build [.nilFunc, .slice none 0 0] [(0, 1, (t 3))]), L 5 (.box 2 (t 4) false), J 2 5])
 (.ret))⟩
def f11 : LFunc := ⟨8, [1, 0, 4], [.tmp 4],
 .seq (r [K 4 (.mov (i 0))])
 (.seq (r [M 5 0, M 6 1, L 7 (.call (.func 34) [(t 5), (t 6), (.func 35)]), J 4 7])
 (.ret))⟩
def f12 : LFunc := ⟨13, [1, 6, 0, 4], [.tmp 4],
 .seq (r [K 4 (.mov (.const (.pointer none)))])
 (.seq (.seq (r [M 5 0, K 6 (.bin .eql .ptr (t 5) (.const (.pointer none)))])
 (.cond (t 6) (.seq (r [K 4 (.mov (.const (.pointer none)))])
 (.ret)) (.skip)))
 (.seq (r [M 7 0, L 8 (.nilCheck (t 7)), L 9 (.fieldAddr 1 (t 8)), L 10 (.load none (t 9)), M 11 1, L 12 (.lookup 2 (.pointer none) (t 10) (t 11) false), J 4 12])
 (.ret)))⟩
def f13 : LFunc := ⟨10, [4, 0, 2], [.cell 2 (some 1)],
 .seq (r [K 2 (.alloc 1 [.slice none 0 0])])
 (.seq (.seq (r [M 3 0, K 4 (.bin .eql .ptr (t 3) (.const (.pointer none)))])
 (.cond (t 4) (.seq (r [L 5 (.build [.slice none 0 0] []), N (.store 1 (t 2) (t 5) false)])
 (.ret)) (.skip)))
 (.seq (r [M 6 0, L 7 (.nilCheck (t 6)), L 8 (.fieldAddr 5 (t 7)), L 9 (.load (some 1) (t 8)), N (.store 1 (t 2) (t 9) false)])
 (.ret)))⟩
def f14 : LFunc := ⟨4, [1, 0, 2], [.tmp 2],
 .seq (r [K 1 (.box 1 (t 0) false), K 2 (.mov (.const (.nilFunc)))])
 (.seq (r [L 3 (.makeFunc (.func 36) [] [(t 1)]), J 2 3])
 (.ret))⟩
def f15 : LFunc := ⟨14, [6, 5, 4, 3, 2, 1, 0, 8], [.tmp 8],
 .seq (r [K 4 (.box 1 (t 0) false), K 5 (.box 1 (t 1) false), K 6 (.box 1 (t 2) false), K 8 (.mov (.const (.slice none 0 0)))])
 (.seq (r [M 9 3, L 10 (.call (.func 39) [(t 9)]), L 11 (.makeFunc (.func 40) [] [(t 4), (t 5), (t 6)]), L 12 (.call (.func 38) [(t 10), (t 11)]), L 13 (.call (.func 37) [(t 12)]), J 8 13])
 (.ret))⟩
def f16 : LFunc := ⟨26, [6, 8, 16, 7, 1, 0, 4, 5], [.tmp 4, .tmp 5],
 .seq (r [K 4 (.mov (.const (.pointer none))), K 5 (.mov (.const (.bool false)))])
 (.seq (r [M 10 0, M 11 1, L 12 (.call (.func 41) [(t 10), (t 11)]), M 9 12, L 13 (.extract (t 9) 0), L 14 (.extract (t 9) 1), J 6 13, J 7 14])
 (.seq (.seq (r [M 15 7, K 16 (.un .not (t 15))])
 (.cond (t 16) (.seq (r [K 8 (.mov (.const (.pointer none)))])
 (.seq (r [M 17 8, J 4 17, K 5 (.mov (.const (.bool false)))])
 (.ret))) (.skip)))
 (.seq (r [M 18 0, L 19 (.nilCheck (t 18)), L 20 (.fieldAddr 1 (t 19)), L 21 (.load none (t 20)), M 22 6, L 23 (.indexSl 2 (t 21) (t 22)), L 24 (.fieldAddr 1 (t 23)), L 25 (.load none (t 24)), J 4 25, K 5 (.mov (.const (.bool true)))])
 (.ret))))⟩
def f17 : LFunc := ⟨41, [9, 7, 19, 22, 20, 21, 0, 2, 1, 6], [.tmp 6],
 .seq (r [K 6 (.mov (.const (.pointer none)))])
 (.seq (r [M 10 1, L 11 (.build [.slice none 0 0, .int .i64 0, .slice none 0 0] [(0, 1, (t 10))]), M 12 2, L 13 (.build [.slice none 0 0, .int .i64 0, .slice none 0 0, .int .i64 0] [(0, 3, (t 11)), (3, 1, (t 12))]), L 14 (.box 4 (t 13) false), J 7 14])
 (.seq (.seq (r [M 15 0, L 16 (.nilCheck (t 15)), L 17 (.fieldAddr 0 (t 16)), L 18 (.fieldAddr 3 (t 17)), K 19 (.load none (t 18)), K 20 (.len false (t 19)), K 21 (.mov (i 0))])
 (.block 0 (.loop [] (.seq (r [K 22 (.bin .lss .none (t 21) (t 20))])
 (.seq (.cond (t 22) (.skip) (.exit 0))
 (.seq (.block 1 (.seq (r [L 23 (.indexSl 2 (t 19) (t 21)), L 24 (.load (some 2) (t 23)), K 9 (.alloc 2 [.int .i64 0, .slice none 0 0]), N (.store 2 (t 9) (t 24) false)])
 (.region [M 25 7, M 26 7, L 27 (.nilCheck (t 26)), L 28 (.fieldAddr 0 (t 27)), L 29 (.fieldAddr 2 (t 28)), L 30 (.load none (t 29)), L 31 (.fieldAddr 0 (t 9)), L 32 (.load none (t 31)), L 33 (.call (.func 42) [(t 32)]), L 34 (.buildSlice 1 1 [.pointer none] [(0, 1, (t 33))] false), L 35 (.append 1 8 (t 30) (t 34)), L 36 (.nilCheck (t 25)), L 37 (.fieldAddr 0 (t 36)), L 38 (.fieldAddr 2 (t 37)), N (.store 1 (t 38) (t 35) false)] [(5, 8)])))
 (r [L 39 (.bin .add .none (t 21) (i 1)), J 21 39])))))))
 (.seq (r [M 40 7, J 6 40])
 (.ret))))⟩
def f18 : LFunc := ⟨48, [25, 2, 7, 15, 8, 1, 0, 6], [.tmp 6],
 .seq (r [K 6 (.mov (.const (.bool false)))])
 (.seq (r [M 10 0, M 11 1, L 12 (.call (.func 41) [(t 10), (t 11)]), M 9 12, L 13 (.extract (t 9) 0), L 14 (.extract (t 9) 1), J 7 13, J 8 14])
 (.seq (.block 0 (.seq (r [M 16 8, J 15 16])
 (.cond (t 15) (.seq (r [M 17 0, L 18 (.nilCheck (t 17)), L 19 (.fieldAddr 1 (t 18)), L 20 (.load none (t 19)), M 21 7, M 22 2, L 23 (.indexSl 2 (t 20) (t 21)), L 24 (.fieldAddr 1 (t 23)), N (.store 1 (t 24) (t 22) false)])
 (.seq (r [K 6 (.mov (.const (.bool false)))])
 (.ret))) (.seq (r [M 26 0, L 27 (.bin .eql .ptr (t 26) (.const (.pointer none))), M 28 27, G 29 28 false (.mov (t 0)), G 30 28 false (.nilCheck (t 29)), G 31 28 false (.fieldAddr 0 (t 30)), G 32 28 false (.load none (t 31)), G 33 28 false (.bin .eql .func (t 32) (.const (.nilFunc))), L 34 (.pick (t 28) (.const (.bool true)) (t 33)), J 25 34])
 (.cond (t 25) (.seq (r [K 6 (.mov (.const (.bool false)))])
 (.ret)) (.skip))))))
 (.seq (r [M 35 0, M 36 0, L 37 (.nilCheck (t 36)), L 38 (.fieldAddr 1 (t 37)), L 39 (.load none (t 38)), M 40 7, M 41 1, M 42 2, L 43 (.build [.slice none 0 0, .pointer none] [(0, 1, (t 41)), (1, 1, (t 42))]), L 44 (.buildSlice 2 1 [.slice none 0 0, .pointer none] [(0, 2, (t 43))] false), L 45 (.call (.func 43) [(t 39), (t 40), (t 44)]), L 46 (.nilCheck (t 35)), L 47 (.fieldAddr 1 (t 46)), N (.store 1 (t 47) (t 45) false)])
 (.seq (r [K 6 (.mov (.const (.bool true)))])
 (.ret)))))⟩
def f19 : LFunc := ⟨99, [19, 80, 20, 17, 15, 14, 46, 49, 47, 48, 40, 2, 12, 3, 1, 0, 8, 9], [.cell 8 (some 3), .tmp 9],
 .seq (r [⟨(some 8), false, .alloc 3 [.int .i64 0, .int .i64 0, .string ⟨#[]⟩], none⟩, K 9 (.mov (.const (.bool false)))])
 (.seq (.seq (r [M 22 0, L 23 (.call (.func 45) [(t 22)]), M 24 1, M 25 3, L 26 (.call (.func 44) [(t 23), (t 24), (t 25)]), M 21 26, L 27 (.extract (t 21) 0), L 28 (.extract (t 21) 1), L 29 (.extract (t 21) 2), ⟨(some 10), true, .alloc 4 [.string ⟨#[]⟩, .int .i64 0, .bool false, .string ⟨#[]⟩], none⟩, N (.store 4 (t 10) (t 27) false), M 11 28, J 12 29])
 (.seq (r [M 30 12, L 31 (.bin .neq .none (t 30) (i 0)), M 32 31, G 33 32 false (.mov (t 0)), G 34 32 false (.mov (t 1)), G 35 32 false (.call (.func 12) [(t 33), (t 34)]), G 36 32 false (.call (.func 13) [(t 35)]), G 37 32 false (.mov (t 2)), G 38 32 false (.call (.func 46) [(t 36), (t 37)]), G 39 32 false (.un .not (t 38)), K 40 (.pick (t 32) (.const (.bool true)) (t 39))])
 (.cond (t 40) (.seq (r [⟨(some 41), true, .build [.int .i64 0, .int .i64 0, .string ⟨#[]⟩] [], none⟩, N (.store 3 (t 8) (t 41) false), K 9 (.mov (.const (.bool false)))])
 (.ret)) (.skip))))
 (.seq (.seq (r [M 42 3, M 43 3, L 44 (.len false (t 43)), L 45 (.bin .sub .none (t 44) (i 1)), K 46 (.sliceSl 1 (t 42) none (some (t 45)) none), K 47 (.len false (t 46)), K 48 (.mov (i 0))])
 (.block 0 (.loop [] (.seq (r [K 49 (.bin .lss .none (t 48) (t 47))])
 (.seq (.cond (t 49) (.skip) (.exit 0))
 (.seq (.block 1 (.seq (r [L 50 (.indexSl 1 (t 46) (t 48)), L 51 (.load none (t 50)), J 14 51])
 (.seq (r [M 53 0, L 54 (.nilCheck (t 53)), L 55 (.fieldAddr 0 (t 54)), L 56 (.load none (t 55)), M 57 1, M 58 14, L 59 (.call (.func 47) [(t 56), (t 57), (t 58)]), M 52 59, L 60 (.extract (t 52) 0), L 61 (.extract (t 52) 1), ⟨(some 15), false, .alloc 4 [.string ⟨#[]⟩, .int .i64 0, .bool false, .string ⟨#[]⟩], none⟩, N (.store 4 (t 15) (t 60) false), M 16 61])
 (.seq (r [M 63 0, M 64 1, L 65 (.call (.func 12) [(t 63), (t 64)]), M 66 2, M 67 14, L 68 (.call (.func 48) [(t 65), (t 66), (t 67)]), M 62 68, L 69 (.extract (t 62) 0), L 70 (.extract (t 62) 1), ⟨(some 17), false, .alloc 3 [.int .i64 0, .int .i64 0, .string ⟨#[]⟩], none⟩, N (.store 3 (t 17) (t 69) false), M 18 70])
 (.seq (r [M 72 0, L 73 (.fieldAddr 3 (t 15)), L 74 (.load none (t 73)), L 75 (.load (some 3) (t 17)), L 76 (.call (.func 49) [(t 72), (t 74), (t 75)]), M 71 76, L 77 (.extract (t 71) 0), L 78 (.extract (t 71) 1), J 19 77, J 20 78])
 (.seq (.seq (r [M 79 20, K 80 (.un .not (t 79))])
 (.cond (t 80) (.seq (r [⟨(some 81), true, .build [.int .i64 0, .int .i64 0, .string ⟨#[]⟩] [], none⟩, N (.store 3 (t 8) (t 81) false), K 9 (.mov (.const (.bool true)))])
 (.ret)) (.skip)))
 (r [L 82 (.fieldAddr 3 (t 15)), L 83 (.load none (t 82)), M 84 19, J 1 83, J 2 84])))))))
 (r [L 85 (.bin .add .none (t 48) (i 1)), J 48 85])))))))
 (.seq (.region [M 86 0, M 87 1, L 88 (.call (.func 12) [(t 86), (t 87)]), M 89 2, M 90 3, M 91 3, L 92 (.len false (t 91)), L 93 (.bin .sub .none (t 92) (i 1)), L 94 (.indexSl 1 (t 90) (t 93)), L 95 (.load none (t 94)), L 96 (.call (.func 48) [(t 88), (t 89), (t 95)]), L 97 (.extract (t 96) 0), L 98 (.extract (t 96) 1), N (.store 3 (t 8) (t 97) false), J 9 98] [(9, 2)])
 (.ret))))⟩
def f20 : LFunc := ⟨70, [63, 37, 22, 4, 11, 2, 0, 1], [],
 .seq (r [K 4 (.box 3 (t 1) false)])
 (.seq (.seq (r [M 6 0, L 7 (.bin .eql .ptr (t 6) (.const (.pointer none))), M 8 7, G 9 8 false (.mov (t 2)), G 10 8 false (.bin .lss .none (t 9) (i 1)), K 11 (.pick (t 8) (.const (.bool true)) (t 10))])
 (.cond (t 11) (.ret) (.skip)))
 (.seq (r [M 12 0, L 13 (.nilCheck (t 12)), L 14 (.fieldAddr 1 (t 13)), L 15 (.load none (t 14)), M 16 2, L 17 (.bin .add .none (t 15) (t 16)), L 18 (.nilCheck (t 12)), L 19 (.fieldAddr 1 (t 18)), N (.store 1 (t 19) (t 17) false)])
 (.seq (.seq (r [L 20 (.fieldAddr 0 (t 4)), L 21 (.load none (t 20)), K 22 (.bin .eql .none (t 21) (i 0))])
 (.cond (t 22) (.ret) (.skip)))
 (.seq (r [M 23 0, L 24 (.load (some 3) (t 4)), L 25 (.load (some 3) (t 4)), L 26 (.call (.func 50) [(t 23), (t 24), (t 25)])])
 (.seq (r [M 27 0, L 28 (.nilCheck (t 27)), L 29 (.fieldAddr 2 (t 28)), L 30 (.load none (t 29)), M 31 2, L 32 (.bin .add .none (t 30) (t 31)), L 33 (.nilCheck (t 27)), L 34 (.fieldAddr 2 (t 33)), N (.store 1 (t 34) (t 32) false)])
 (.seq (.seq (r [L 35 (.fieldAddr 0 (t 4)), L 36 (.load none (t 35)), K 37 (.bin .eql .none (t 36) (i 1))])
 (.cond (t 37) (.seq (r [M 38 0, L 39 (.nilCheck (t 38)), L 40 (.fieldAddr 3 (t 39)), L 41 (.load none (t 40)), M 42 2, L 43 (.bin .add .none (t 41) (t 42)), L 44 (.nilCheck (t 38)), L 45 (.fieldAddr 3 (t 44)), N (.store 1 (t 45) (t 43) false)])
 (.region [M 46 0, M 47 0, L 48 (.nilCheck (t 47)), L 49 (.fieldAddr 4 (t 48)), L 50 (.load (some 2) (t 49)), L 51 (.fieldAddr 1 (t 4)), L 52 (.load none (t 51)), L 53 (.call (.func 52) [(t 52)]), M 54 2, L 55 (.call (.func 53) [(t 53), (t 54)]), L 56 (.call (.func 51) [(t 50), (t 55)]), L 57 (.nilCheck (t 46)), L 58 (.fieldAddr 4 (t 57)), N (.store 2 (t 58) (t 56) false)] [(4, 7), (4, 9)])) (.skip)))
 (.seq (r [M 59 0, L 60 (.nilCheck (t 59)), L 61 (.fieldAddr 12 (t 60)), L 62 (.load none (t 61)), K 63 (.bin .neq .ptr (t 62) (.const (.pointer none)))])
 (.cond (t 63) (r [M 64 0, L 65 (.nilCheck (t 64)), L 66 (.fieldAddr 12 (t 65)), L 67 (.load none (t 66)), L 68 (.load (some 3) (t 4)), L 69 (.call (.func 54) [(t 67), (t 68), (.const (.bool true))])]) (.skip)))))))))⟩
def f21 : LFunc := ⟨10, [4, 0, 2], [.tmp 2],
 .seq (r [K 2 (.mov (i 0))])
 (.seq (.seq (r [M 3 0, K 4 (.bin .eql .ptr (t 3) (.const (.pointer none)))])
 (.cond (t 4) (.seq (r [K 2 (.mov (i 0))])
 (.ret)) (.skip)))
 (.seq (r [M 5 0, L 6 (.nilCheck (t 5)), L 7 (.fieldAddr 1 (t 6)), L 8 (.load none (t 7)), L 9 (.len false (t 8)), J 2 9])
 (.ret)))⟩
def f22 : LFunc := ⟨4, [1, 0, 2], [.tmp 2],
 .seq (r [K 1 (.box 1 (t 0) false), K 2 (.mov (.const (.nilFunc)))])
 (.seq (r [L 3 (.makeFunc (.func 55) [] [(t 1)]), J 2 3])
 (.ret))⟩
def f23 : LFunc := ⟨3, [0], [.tmp 0],
 .seq (r [K 0 (.mov (.const (.pointer none)))])
 (.seq (r [L 1 (.build [.slice none 0 0] []), L 2 (.box 1 (t 1) false), J 0 2])
 (.ret))⟩
def f24 : LFunc := ⟨83, [4, 79, 5, 65, 51, 39, 33, 27, 20, 13, 12, 7, 0, 2, 3], [.cell 2 (some 3), .tmp 3],
 .seq (r [⟨(some 2), false, .alloc 3 [.int .i64 0, .int .i64 0, .string ⟨#[]⟩], none⟩, K 3 (.mov (i 0))])
 (.seq (.seq (r [M 6 0, K 7 (.bin .eql .ptr (t 6) (.const (.pointer none)))])
 (.cond (t 7) (.seq (r [⟨(some 8), true, .build [.int .i64 0, .int .i64 0, .string ⟨#[]⟩] [], none⟩, N (.store 3 (t 2) (t 8) false), K 3 (.mov (i 6))])
 (.ret)) (.skip)))
 (.seq (.seq (r [M 9 0, L 10 (.nilCheck (t 9)), L 11 (.fieldAddr 0 (t 10)), K 12 (.load none (t 11))])
 (.block 0 (.seq (r [L 14 (.bin .eql .none (t 12) (i 1)), J 13 14])
 (.cond (t 13) (.seq (r [M 15 0, L 16 (.nilCheck (t 15)), L 17 (.fieldAddr 1 (t 16)), L 18 (.load none (t 17)), L 19 (.call (.func 56) [(t 18)]), N (.store 3 (t 2) (t 19) false), K 3 (.mov (i 0))])
 (.ret)) (.seq (r [L 21 (.bin .eql .none (t 12) (i 2)), J 20 21])
 (.cond (t 20) (.seq (r [M 22 0, L 23 (.nilCheck (t 22)), L 24 (.fieldAddr 2 (t 23)), L 25 (.load none (t 24)), L 26 (.call (.func 56) [(t 25)]), N (.store 3 (t 2) (t 26) false), K 3 (.mov (i 0))])
 (.ret)) (.seq (r [L 28 (.bin .eql .none (t 12) (i 4)), J 27 28])
 (.cond (t 27) (.seq (r [M 29 0, L 30 (.nilCheck (t 29)), L 31 (.fieldAddr 6 (t 30)), L 32 (.load (some 3) (t 31)), N (.store 3 (t 2) (t 32) false), K 3 (.mov (i 0))])
 (.ret)) (.seq (r [L 34 (.bin .eql .none (t 12) (i 5)), J 33 34])
 (.cond (t 33) (.seq (r [M 35 0, L 36 (.nilCheck (t 35)), L 37 (.fieldAddr 9 (t 36)), L 38 (.load (some 3) (t 37)), N (.store 3 (t 2) (t 38) false), K 3 (.mov (i 0))])
 (.ret)) (.seq (r [L 40 (.bin .eql .none (t 12) (i 7)), J 39 40])
 (.cond (t 39) (.seq (r [M 41 0, L 42 (.nilCheck (t 41)), L 43 (.fieldAddr 12 (t 42)), L 44 (.load none (t 43)), L 45 (.call (.func 57) [(t 44)]), L 46 (.call (.func 56) [(t 45)]), N (.store 3 (t 2) (t 46) false), K 3 (.mov (i 0))])
 (.ret)) (.skip)))))))))))))
 (.seq (.seq (r [M 47 0, L 48 (.nilCheck (t 47)), L 49 (.fieldAddr 3 (t 48)), L 50 (.load none (t 49)), K 51 (.bin .eql .none (t 50) (i 0))])
 (.cond (t 51) (.seq (r [⟨(some 52), true, .build [.int .i64 0, .int .i64 0, .string ⟨#[]⟩] [], none⟩, N (.store 3 (t 2) (t 52) false), K 3 (.mov (i 0))])
 (.ret)) (.skip)))
 (.seq (r [M 54 0, L 55 (.nilCheck (t 54)), L 56 (.fieldAddr 4 (t 55)), L 57 (.load (some 2) (t 56)), L 58 (.call (.func 58) [(t 57)]), M 53 58, L 59 (.extract (t 53) 0), L 60 (.extract (t 53) 1), J 4 59, J 5 60])
 (.seq (.seq (r [M 61 0, L 62 (.nilCheck (t 61)), L 63 (.fieldAddr 0 (t 62)), L 64 (.load none (t 63)), K 65 (.bin .eql .none (t 64) (i 6))])
 (.cond (t 65) (r [M 67 0, L 68 (.nilCheck (t 67)), L 69 (.fieldAddr 4 (t 68)), L 70 (.load (some 2) (t 69)), M 71 0, L 72 (.nilCheck (t 71)), L 73 (.fieldAddr 3 (t 72)), L 74 (.load none (t 73)), L 75 (.call (.func 59) [(t 70), (t 74)]), M 66 75, L 76 (.extract (t 66) 0), L 77 (.extract (t 66) 1), J 4 76, J 5 77]) (.skip)))
 (.seq (.seq (r [M 78 5, K 79 (.un .not (t 78))])
 (.cond (t 79) (.seq (r [⟨(some 80), true, .build [.int .i64 0, .int .i64 0, .string ⟨#[]⟩] [], none⟩, N (.store 3 (t 2) (t 80) false), K 3 (.mov (i 11))])
 (.ret)) (.skip)))
 (.seq (r [M 81 4, L 82 (.call (.func 56) [(t 81)]), N (.store 3 (t 2) (t 82) false), K 3 (.mov (i 0))])
 (.ret))))))))⟩
def f25 : LFunc := ⟨30, [3, 2, 13, 4, 5, 0, 1], [.tmp 0, .tmp 1],
 .seq (r [K 0 (.mov (.const (.pointer none))), K 1 (.mov (.const (.pointer none)))])
 (.seq (r [L 6 (.call (.func 5) []), L 7 (.build [.slice none 0 0, .slice none 0 0, .slice none 0 0] []), L 8 (.box 3 (t 7) false), J 2 6, J 3 8])
 (.seq (r [L 9 (.call (.func 60) []), J 4 9])
 (.seq (.seq (r [K 5 (.mov (i 0))])
 (.block 0 (.loop [] (.seq (.seq (r [M 10 5, M 11 4, L 12 (.len false (t 11)), K 13 (.bin .lss .none (t 10) (t 12))])
 (.cond (t 13) (.skip) (.exit 0)))
 (.seq (.block 1 (.seq (r [M 16 2, M 17 4, M 18 5, L 19 (.indexSl 4 (t 17) (t 18)), L 20 (.load (some 4) (t 19)), L 21 (.call (.func 61) [(t 16), (t 20)])])
 (r [M 22 3, M 23 4, M 24 5, L 25 (.indexSl 4 (t 23) (t 24)), L 26 (.load (some 4) (t 25)), L 27 (.call (.func 62) [(t 22), (t 26)])])))
 (r [M 14 5, L 15 (.bin .add .none (t 14) (i 1)), J 5 15]))))))
 (.seq (r [M 28 2, M 29 3, J 0 28, J 1 29])
 (.ret)))))⟩
def f26 : LFunc := ⟨25, [7, 14, 6, 3, 0, 1, 4, 5], [.tmp 4, .tmp 5],
 .seq (r [K 3 (.box 4 (t 1) false), K 4 (.mov (.const (.pointer none))), K 5 (.mov (i 0))])
 (.seq (.seq (.region [M 8 0, L 9 (.call (.func 45) [(t 8)]), L 10 (.load (some 4) (t 3)), L 11 (.call (.func 63) [(t 9), (t 10)]), ⟨(some 6), false, .alloc 5 [.int .i64 0, .int .i64 0, .string ⟨#[]⟩, .int .i64 0, .string ⟨#[]⟩], none⟩, N (.store 5 (t 6) (t 11) false)] [(2, 1)])
 (.seq (r [L 12 (.fieldAddr 0 (t 6)), L 13 (.load none (t 12)), K 14 (.bin .neq .none (t 13) (i 0))])
 (.cond (t 14) (.seq (r [L 15 (.fieldAddr 0 (t 6)), L 16 (.load none (t 15)), K 4 (.mov (.const (.pointer none))), J 5 16])
 (.ret)) (.skip))))
 (.seq (r [L 17 (.load (some 4) (t 3)), L 18 (.call (.func 33) [(t 17)]), ⟨(some 19), true, .build [.string ⟨#[]⟩, .string ⟨#[]⟩, .slice none 0 0, .slice none 0 0, .slice none 0 0] [(0, 4, (t 18))], none⟩, L 20 (.box 5 (t 19) false), J 7 20])
 (.seq (r [M 21 7, M 22 0, L 23 (.call (.func 4) [(t 21), (t 22)])])
 (.seq (r [M 24 7, J 4 24, K 5 (.mov (i 0))])
 (.ret)))))⟩
def f27 : LFunc := ⟨89, [63, 50, 37, 36, 9, 8, 1, 7, 0, 13, 2, 6], [],
 .seq (r [K 6 (.mov (i 0))])
 (.block 0 (.loop [] (.seq (.seq (r [M 10 6, M 11 2, L 12 (.len false (t 11)), K 13 (.bin .lss .none (t 10) (t 12))])
 (.cond (t 13) (.skip) (.exit 0)))
 (.seq (.block 1 (.seq (r [M 16 2, M 17 6, L 18 (.indexSl 5 (t 16) (t 17)), L 19 (.load (some 5) (t 18)), ⟨(some 7), false, .alloc 5 [.int .i64 0, .string ⟨#[]⟩, .int .i64 0, .string ⟨#[]⟩, .slice none 0 0], none⟩, N (.store 5 (t 7) (t 19) false)])
 (.seq (.region [M 20 0, L 21 (.fieldAddr 1 (t 7)), L 22 (.load none (t 21)), L 23 (.call (.func 12) [(t 20), (t 22)]), M 24 1, L 25 (.nilCheck (t 24)), L 26 (.fieldAddr 0 (t 25)), L 27 (.load none (t 26)), L 28 (.fieldAddr 1 (t 7)), L 29 (.load none (t 28)), L 30 (.call (.func 64) [(t 27), (t 29)]), J 8 23, J 9 30] [(7, 3), (9, 3)])
 (.seq (.seq (r [M 31 8, L 32 (.bin .eql .ptr (t 31) (.const (.pointer none))), M 33 32, G 34 33 false (.mov (t 9)), G 35 33 false (.bin .lss .none (t 34) (i 0)), K 36 (.pick (t 33) (.const (.bool true)) (t 35))])
 (.cond (t 36) (.exit 1) (.skip)))
 (.block 2 (.seq (r [L 38 (.fieldAddr 0 (t 7)), L 39 (.load none (t 38)), L 40 (.bin .eql .none (t 39) (i 1)), J 37 40])
 (.cond (t 37) (.seq (r [M 41 8, L 42 (.fieldAddr 4 (t 7)), L 43 (.load none (t 42)), L 44 (.call (.func 65) [(t 41), (t 43)])])
 (r [M 45 1, M 46 9, L 47 (.fieldAddr 4 (t 7)), L 48 (.load none (t 47)), L 49 (.call (.func 66) [(t 45), (t 46), (t 48)])])) (.seq (r [L 51 (.fieldAddr 0 (t 7)), L 52 (.load none (t 51)), L 53 (.bin .eql .none (t 52) (i 2)), J 50 53])
 (.cond (t 50) (.seq (r [M 54 8, L 55 (.fieldAddr 2 (t 7)), L 56 (.load none (t 55)), L 57 (.call (.func 67) [(t 54), (t 56)])])
 (r [M 58 1, M 59 9, L 60 (.fieldAddr 2 (t 7)), L 61 (.load none (t 60)), L 62 (.call (.func 68) [(t 58), (t 59), (t 61)])])) (.seq (r [L 64 (.fieldAddr 4 (t 7)), L 65 (.load none (t 64)), L 66 (.len false (t 65)), L 67 (.bin .eql .none (t 66) (i 1)), J 63 67])
 (.cond (t 63) (.seq (r [M 68 8, L 69 (.fieldAddr 2 (t 7)), L 70 (.load none (t 69)), L 71 (.fieldAddr 3 (t 7)), L 72 (.load none (t 71)), L 73 (.fieldAddr 4 (t 7)), L 74 (.load none (t 73)), L 75 (.indexSl 3 (t 74) (i 0)), L 76 (.load (some 3) (t 75)), L 77 (.call (.func 69) [(t 68), (t 70), (t 72), (t 76)])])
 (r [M 78 1, M 79 9, L 80 (.fieldAddr 2 (t 7)), L 81 (.load none (t 80)), L 82 (.fieldAddr 3 (t 7)), L 83 (.load none (t 82)), L 84 (.fieldAddr 4 (t 7)), L 85 (.load none (t 84)), L 86 (.indexSl 3 (t 85) (i 0)), L 87 (.load (some 3) (t 86)), L 88 (.call (.func 70) [(t 78), (t 79), (t 81), (t 83), (t 87)])])) (.skip))))))))))))
 (r [M 14 6, L 15 (.bin .add .none (t 14) (i 1)), J 6 15])))))⟩
def f28 : LFunc := ⟨2, [0], [.tmp 0],
 .seq (r [K 0 (.mov (.const (.bool false)))])
 (.seq (r [L 1 (.call (.func 71) []), J 0 1])
 (.ret))⟩
def f29 : LFunc := ⟨10, [4, 0, 2], [.tmp 2],
 .seq (r [K 2 (.mov (i 0))])
 (.seq (.seq (r [M 3 0, K 4 (.bin .eql .ptr (t 3) (.const (.pointer none)))])
 (.cond (t 4) (.seq (r [K 2 (.mov (i 0))])
 (.ret)) (.skip)))
 (.seq (r [M 5 0, L 6 (.nilCheck (t 5)), L 7 (.fieldAddr 4 (t 6)), L 8 (.load none (t 7)), L 9 (.len false (t 8)), J 2 9])
 (.ret)))⟩
def f30 : LFunc := ⟨8, [4, 0, 2], [.tmp 2],
 .seq (r [K 2 (.mov (.const (.slice none 0 0)))])
 (.seq (.seq (r [M 3 0, K 4 (.bin .eql .slice (t 3) (.const (.slice none 0 0)))])
 (.cond (t 4) (.seq (r [K 2 (.mov (.const (.slice none 0 0)))])
 (.ret)) (.skip)))
 (.seq (r [⟨(some 5), true, .buildSlice 3 0 [.int .i64 0, .int .i64 0, .string ⟨#[]⟩] [] false, none⟩, M 6 0, L 7 (.append 3 32 (t 5) (t 6)), J 2 7])
 (.ret)))⟩
def f31 : LFunc := ⟨8, [4, 0, 2], [.tmp 2],
 .seq (r [K 2 (.mov (.const (.slice none 0 0)))])
 (.seq (.seq (r [M 3 0, K 4 (.bin .eql .slice (t 3) (.const (.slice none 0 0)))])
 (.cond (t 4) (.seq (r [K 2 (.mov (.const (.slice none 0 0)))])
 (.ret)) (.skip)))
 (.seq (r [L 5 (.buildSlice 1 0 [.pointer none] [] false), M 6 0, L 7 (.append 1 8 (t 5) (t 6)), J 2 7])
 (.ret)))⟩
def f32 : LFunc := ⟨9, [0, 2], [.tmp 2],
 .seq (r [K 2 (.mov (.const (.pointer none)))])
 (.seq (r [M 3 0, M 4 0, L 5 (.nilCheck (t 4)), L 6 (.fieldAddr 0 (t 5)), L 7 (.load none (t 6)), L 8 (.call (.func 72) [(t 3), (t 7)]), J 2 8])
 (.ret))⟩
def f33 : LFunc := ⟨50, [4, 34, 32, 33, 3, 17, 15, 16, 1, 0, 2], [.cell 2 (some 4)],
 .seq (r [K 1 (.box 4 (t 0) false), ⟨(some 2), false, .alloc 4 [.string ⟨#[]⟩, .string ⟨#[]⟩, .slice none 0 0, .slice none 0 0], none⟩])
 (.seq (.region [L 5 (.fieldAddr 2 (t 1)), L 6 (.load none (t 5)), L 7 (.call (.func 73) [(t 6)]), L 8 (.fieldAddr 3 (t 1)), L 9 (.load none (t 8)), L 10 (.call (.func 74) [(t 9)]), L 11 (.fieldAddr 2 (t 1)), N (.store 1 (t 11) (t 7) false), L 12 (.fieldAddr 3 (t 1)), N (.store 1 (t 12) (t 10) false)] [(4, 2)])
 (.seq (.seq (r [L 13 (.fieldAddr 2 (t 1)), L 14 (.load none (t 13)), K 15 (.len false (t 14)), K 16 (.mov (i 0))])
 (.block 0 (.loop [] (.seq (r [K 17 (.bin .lss .none (t 16) (t 15))])
 (.seq (.cond (t 17) (.skip) (.exit 0))
 (.seq (.block 1 (.seq (r [M 18 16, J 3 18])
 (.region [L 19 (.fieldAddr 2 (t 1)), L 20 (.load none (t 19)), M 21 3, L 22 (.fieldAddr 2 (t 1)), L 23 (.load none (t 22)), M 24 3, L 25 (.indexSl 1 (t 23) (t 24)), L 26 (.load none (t 25)), L 27 (.call (.func 75) [(t 26)]), L 28 (.indexSl 1 (t 20) (t 21)), N (.store 1 (t 28) (t 27) false)] [(1, 8)])))
 (r [L 29 (.bin .add .none (t 16) (i 1)), J 16 29])))))))
 (.seq (.seq (r [L 30 (.fieldAddr 3 (t 1)), L 31 (.load none (t 30)), K 32 (.len false (t 31)), K 33 (.mov (i 0))])
 (.block 2 (.loop [] (.seq (r [K 34 (.bin .lss .none (t 33) (t 32))])
 (.seq (.cond (t 34) (.skip) (.exit 2))
 (.seq (.block 3 (.seq (r [M 35 33, J 4 35])
 (.region [L 36 (.fieldAddr 3 (t 1)), L 37 (.load none (t 36)), M 38 4, L 39 (.fieldAddr 3 (t 1)), L 40 (.load none (t 39)), M 41 4, L 42 (.indexSl 2 (t 40) (t 41)), L 43 (.fieldAddr 1 (t 42)), L 44 (.load none (t 43)), L 45 (.call (.func 75) [(t 44)]), L 46 (.indexSl 2 (t 37) (t 38)), L 47 (.fieldAddr 1 (t 46)), N (.store 1 (t 47) (t 45) false)] [(1, 9)])))
 (r [L 48 (.bin .add .none (t 33) (i 1)), J 33 48])))))))
 (.seq (r [L 49 (.load (some 4) (t 1)), N (.store 4 (t 2) (t 49) false)])
 (.ret)))))⟩
def f34 : LFunc := ⟨39, [38, 31, 10, 9, 8, 2, 21, 1, 7, 11, 14, 12, 13, 0, 6], [.tmp 6],
 .seq (r [K 6 (.mov (i 0))])
 (.seq (.seq (r [J 11 0, K 12 (.len false (t 11)), K 13 (.mov (i 0))])
 (.block 0 (.loop [] (.seq (r [K 14 (.bin .lss .none (t 13) (t 12))])
 (.seq (.cond (t 14) (.skip) (.exit 0))
 (.seq (.block 1 (.seq (r [M 15 13, L 16 (.indexSl 3 (t 11) (t 13)), L 17 (.load (some 3) (t 16)), ⟨(some 8), false, .alloc 3 [.int .i64 0, .int .i64 0, .string ⟨#[]⟩], none⟩, J 7 15, N (.store 3 (t 8) (t 17) false)])
 (.seq (.seq (r [M 18 7, M 19 1, L 20 (.len false (t 19)), K 21 (.bin .geq .none (t 18) (t 20))])
 (.cond (t 21) (.seq (r [K 6 (.mov (i 1))])
 (.ret)) (.skip)))
 (.seq (r [M 22 1, M 23 7, L 24 (.indexSl 3 (t 22) (t 23)), L 25 (.load (some 3) (t 24)), ⟨(some 9), false, .alloc 3 [.int .i64 0, .int .i64 0, .string ⟨#[]⟩], none⟩, N (.store 3 (t 9) (t 25) false)])
 (.seq (r [M 26 2, L 27 (.load (some 3) (t 8)), L 28 (.load (some 3) (t 9)), L 29 (.call (t 26) [(t 27), (t 28)]), J 10 29])
 (.seq (r [M 30 10, K 31 (.bin .neq .none (t 30) (i 0))])
 (.cond (t 31) (.seq (r [M 32 10, J 6 32])
 (.ret)) (.skip))))))))
 (r [L 33 (.bin .add .none (t 13) (i 1)), J 13 33])))))))
 (.seq (.seq (r [M 34 0, L 35 (.len false (t 34)), M 36 1, L 37 (.len false (t 36)), K 38 (.bin .lss .none (t 35) (t 37))])
 (.cond (t 38) (.seq (r [K 6 (.mov (i (-1)))])
 (.ret)) (.skip)))
 (.seq (r [K 6 (.mov (i 0))])
 (.ret))))⟩
def f35 : LFunc := ⟨22, [3, 2, 1, 0, 4], [.tmp 4],
 .seq (r [K 2 (.box 3 (t 0) false), K 3 (.box 3 (t 1) false), K 4 (.mov (i 0))])
 (.seq (.region [L 5 (.fieldAddr 0 (t 2)), L 6 (.load none (t 5)), L 7 (.fieldAddr 0 (t 3)), L 8 (.load none (t 7)), L 9 (.call (.func 77) [(t 6), (t 8)]), L 10 (.fieldAddr 1 (t 2)), L 11 (.load none (t 10)), L 12 (.fieldAddr 1 (t 3)), L 13 (.load none (t 12)), L 14 (.call (.func 78) [(t 11), (t 13)]), L 15 (.fieldAddr 2 (t 2)), L 16 (.load none (t 15)), L 17 (.fieldAddr 2 (t 3)), L 18 (.load none (t 17)), L 19 (.call (.func 79) [(t 16), (t 18)]), L 20 (.buildSlice 1 3 [.int .i64 0] [(0, 1, (t 9)), (1, 1, (t 14)), (2, 1, (t 19))] false), L 21 (.call (.func 76) [(t 20)]), J 4 21] [(6, 4), (8, 4), (11, 4), (11, 9), (13, 4), (13, 9)])
 (.ret))⟩
def f36 : LFunc := ⟨26, [24, 0, 18, 5, 4, 7, 10, 8, 9, 1], [],
 .seq (r [L 6 (.fieldAddr 0 (t 1)), K 7 (.load none (t 6)), K 8 (.len false (t 7)), K 9 (.mov (i 0))])
 (.block 0 (.loop [] (.seq (r [K 10 (.bin .lss .none (t 9) (t 8))])
 (.seq (.cond (t 10) (.skip) (.exit 0))
 (.seq (.block 1 (.seq (r [L 11 (.indexSl 2 (t 7) (t 9)), L 12 (.load (some 2) (t 11)), K 4 (.alloc 2 [.int .i64 0, .int .i64 0]), N (.store 2 (t 4) (t 12) false)])
 (.seq (r [L 13 (.indexArrAddr 1 2 (t 4) (i 0)), L 14 (.load none (t 13)), J 5 14])
 (.block 2 (.loop [] (.seq (.seq (r [M 15 5, L 16 (.indexArrAddr 1 2 (t 4) (i 1)), L 17 (.load none (t 16)), K 18 (.bin .lss .none (t 15) (t 17))])
 (.cond (t 18) (.skip) (.exit 2)))
 (.seq (.block 3 (.seq (r [M 21 0, M 22 5, L 23 (.call (t 21) [(t 22)]), K 24 (.un .not (t 23))])
 (.cond (t 24) (.ret) (.skip))))
 (r [M 19 5, L 20 (.bin .add .none (t 19) (i 1)), J 5 20]))))))))
 (r [L 25 (.bin .add .none (t 9) (i 1)), J 9 25]))))))⟩
def f37 : LFunc := ⟨8, [3, 0, 2], [.tmp 2],
 .seq (r [K 2 (.mov (.const (.slice none 0 0)))])
 (.seq (r [K 3 (.alloc 1 [.slice none 0 0])])
 (.seq (r [M 4 0, L 5 (.makeFunc (.func 81) [] [(t 3)]), L 6 (.call (.func 80) [(t 4), (t 5)])])
 (.seq (r [L 7 (.load none (t 3)), J 2 7])
 (.ret))))⟩
def f38 : LFunc := ⟨6, [3, 2, 1, 0, 4], [.tmp 4],
 .seq (r [K 2 (.box 1 (t 0) false), K 3 (.box 1 (t 1) false), K 4 (.mov (.const (.nilFunc)))])
 (.seq (r [L 5 (.makeFunc (.func 82) [] [(t 2), (t 3)]), J 4 5])
 (.ret))⟩
def f39 : LFunc := ⟨5, [0, 2], [.tmp 2],
 .seq (r [K 2 (.mov (.const (.nilFunc)))])
 (.seq (r [M 3 0, L 4 (.call (.func 85) [(t 3)]), J 2 4])
 (.ret))⟩
def f40 : LFunc := ⟨17, [6, 0, 3, 2, 1, 5], [.cell 5 (some 3)],
 .seq (r [⟨(some 5), false, .alloc 3 [.int .i64 0, .int .i64 0, .string ⟨#[]⟩], none⟩])
 (.seq (r [L 9 (.load none (t 1)), L 10 (.load none (t 2)), L 11 (.load none (t 3)), M 12 0, L 13 (.call (.func 19) [(t 9), (t 10), (t 11), (t 12)]), M 8 13, L 14 (.extract (t 8) 0), L 15 (.extract (t 8) 1), ⟨(some 6), false, .alloc 3 [.int .i64 0, .int .i64 0, .string ⟨#[]⟩], none⟩, N (.store 3 (t 6) (t 14) false), M 7 15])
 (.seq (r [L 16 (.load (some 3) (t 6)), N (.store 3 (t 5) (t 16) false)])
 (.ret)))⟩
def f41 : LFunc := ⟨24, [1, 14, 2, 0, 4, 5], [.tmp 4, .tmp 5],
 .seq (r [K 2 (.box 1 (t 0) false), K 4 (.mov (i 0)), K 5 (.mov (.const (.bool false)))])
 (.seq (.seq (r [L 6 (.load none (t 2)), L 7 (.bin .eql .ptr (t 6) (.const (.pointer none))), M 8 7, G 9 8 false (.load none (t 2)), G 10 8 false (.nilCheck (t 9)), G 11 8 false (.fieldAddr 0 (t 10)), G 12 8 false (.load none (t 11)), G 13 8 false (.bin .eql .func (t 12) (.const (.nilFunc))), K 14 (.pick (t 8) (.const (.bool true)) (t 13))])
 (.cond (t 14) (.seq (r [K 4 (.mov (i 0)), K 5 (.mov (.const (.bool false)))])
 (.ret)) (.skip)))
 (.seq (r [L 15 (.load none (t 2)), L 16 (.nilCheck (t 15)), L 17 (.fieldAddr 1 (t 16)), L 18 (.load none (t 17)), M 19 1, L 20 (.makeFunc (.func 87) [] [(t 2)]), L 21 (.call (.func 86) [(t 18), (t 19), (t 20)]), L 22 (.extract (t 21) 0), L 23 (.extract (t 21) 1), J 4 22, J 5 23])
 (.ret)))⟩
def f42 : LFunc := ⟨20, [3, 14, 9, 0, 2], [.tmp 2],
 .seq (r [K 2 (.mov (.const (.pointer none)))])
 (.seq (.seq (r [M 4 0, L 5 (.bin .lss .none (t 4) (i 1)), M 6 5, G 7 6 false (.mov (t 0)), G 8 6 false (.bin .gtr .none (t 7) (i 7)), K 9 (.pick (t 6) (.const (.bool true)) (t 8))])
 (.cond (t 9) (.seq (r [K 2 (.mov (.const (.pointer none)))])
 (.ret)) (.skip)))
 (.seq (r [M 10 0, ⟨(some 11), true, .build [.int .i64 0, .int .i64 0, .int .i64 0, .int .i64 0, .int .i64 0, .int .u64 0, .int .i64 0, .int .i64 0, .string ⟨#[]⟩, .int .i64 0, .int .i64 0, .string ⟨#[]⟩, .pointer none] [(0, 1, (t 10))], none⟩, L 12 (.box 13 (t 11) false), J 3 12])
 (.seq (.seq (r [M 13 0, K 14 (.bin .eql .none (t 13) (i 7))])
 (.cond (t 14) (r [M 15 3, L 16 (.call (.func 88) [(.func 35)]), L 17 (.nilCheck (t 15)), L 18 (.fieldAddr 12 (t 17)), N (.store 1 (t 18) (t 16) false)]) (.skip)))
 (.seq (r [M 19 3, J 2 19])
 (.ret)))))⟩
def f43 : LFunc := ⟨95, [68, 9, 31, 22, 8, 16, 7, 2, 1, 0, 6], [.tmp 6],
 .seq (r [K 6 (.mov (.const (.slice none 0 0)))])
 (.seq (r [M 10 0, M 11 1, L 12 (.sliceSl 2 (t 10) (some (t 11)) none none)])
 (.seq (r [M 13 2, L 14 (.len false (t 13)), J 7 14])
 (.seq (.seq (r [M 15 7, K 16 (.bin .eql .none (t 15) (i 0))])
 (.cond (t 16) (.seq (r [M 17 0, J 6 17])
 (.ret)) (.skip)))
 (.seq (r [M 18 0, L 19 (.len false (t 18)), J 8 19])
 (.seq (.seq (r [M 20 1, M 21 8, K 22 (.bin .eql .none (t 20) (t 21))])
 (.cond (t 22) (.seq (r [M 23 0, M 24 2, L 25 (.append 2 32 (t 23) (t 24)), J 6 25])
 (.ret)) (.skip)))
 (.seq (.seq (r [M 26 8, M 27 7, L 28 (.bin .add .none (t 26) (t 27)), M 29 0, L 30 (.cap (t 29)), K 31 (.bin .gtr .none (t 28) (t 30))])
 (.cond (t 31) (.seq (r [M 32 0, M 33 1, L 34 (.sliceSl 2 (t 32) none (some (t 33)) none), M 35 8, M 36 7, L 37 (.bin .add .none (t 35) (t 36)), M 38 1, L 39 (.bin .sub .none (t 37) (t 38)), L 40 (.appendZ 2 32 [.slice none 0 0, .pointer none] (t 34) (t 39)), J 9 40])
 (.seq (r [M 41 9, M 42 1, L 43 (.sliceSl 2 (t 41) (some (t 42)) none none), M 44 2, L 45 (.copy 2 (t 43) (t 44))])
 (.seq (r [M 46 9, M 47 1, M 48 7, L 49 (.bin .add .none (t 47) (t 48)), L 50 (.sliceSl 2 (t 46) (some (t 49)) none none), M 51 0, M 52 1, L 53 (.sliceSl 2 (t 51) (some (t 52)) none none), L 54 (.copy 2 (t 50) (t 53))])
 (.seq (r [M 55 9, J 6 55])
 (.ret))))) (.skip)))
 (.seq (r [M 56 0, M 57 8, M 58 7, L 59 (.bin .add .none (t 57) (t 58)), L 60 (.sliceSl 2 (t 56) none (some (t 59)) none), J 0 60])
 (.seq (.seq (r [M 61 2, M 62 0, M 63 1, M 64 7, L 65 (.bin .add .none (t 63) (t 64)), L 66 (.sliceSl 2 (t 62) (some (t 65)) none none), L 67 (.call (.func 89) [(t 61), (t 66)]), K 68 (.un .not (t 67))])
 (.cond (t 68) (.seq (r [M 69 0, M 70 1, M 71 7, L 72 (.bin .add .none (t 70) (t 71)), L 73 (.sliceSl 2 (t 69) (some (t 72)) none none), M 74 0, M 75 1, L 76 (.sliceSl 2 (t 74) (some (t 75)) none none), L 77 (.copy 2 (t 73) (t 76))])
 (.seq (r [M 78 0, M 79 1, L 80 (.sliceSl 2 (t 78) (some (t 79)) none none), M 81 2, L 82 (.copy 2 (t 80) (t 81))])
 (.seq (r [M 83 0, J 6 83])
 (.ret)))) (.skip)))
 (.seq (r [M 84 0, M 85 8, L 86 (.sliceSl 2 (t 84) (some (t 85)) none none), M 87 2, L 88 (.copy 2 (t 86) (t 87))])
 (.seq (r [M 89 0, M 90 1, L 91 (.sliceSl 2 (t 89) (some (t 90)) none none), M 92 7, L 93 (.call (.func 90) [(t 91), (t 92)])])
 (.seq (r [M 94 0, J 6 94])
 (.ret))))))))))))⟩
def f44 : LFunc := ⟨57, [48, 11, 40, 9, 36, 12, 10, 1, 0, 22, 25, 23, 24, 20, 2, 6, 7, 8], [.cell 6 (some 4), .tmp 7, .tmp 8],
 .seq (r [⟨(some 6), false, .alloc 4 [.string ⟨#[]⟩, .int .i64 0, .bool false, .string ⟨#[]⟩], none⟩, ⟨(some 7), false, .mov (.const (.string ⟨#[]⟩)), none⟩, K 8 (.mov (i 0))])
 (.seq (.seq (r [M 13 2, L 14 (.len false (t 13)), L 15 (.bin .eql .none (t 14) (i 0)), M 16 15, G 17 16 false (.mov (t 2)), G 18 16 false (.len false (t 17)), G 19 16 false (.bin .gtr .none (t 18) (i 4)), K 20 (.pick (t 16) (.const (.bool true)) (t 19))])
 (.cond (t 20) (.seq (r [⟨(some 21), true, .build [.string ⟨#[]⟩, .int .i64 0, .bool false, .string ⟨#[]⟩] [], none⟩, N (.store 4 (t 6) (t 21) false), ⟨(some 7), false, .mov (.const (.string ⟨#[]⟩)), none⟩, K 8 (.mov (i 5))])
 (.ret)) (.skip)))
 (.seq (.seq (r [J 22 2, K 23 (.len false (t 22)), K 24 (.mov (i 0))])
 (.block 0 (.loop [] (.seq (r [K 25 (.bin .lss .none (t 24) (t 23))])
 (.seq (.cond (t 25) (.skip) (.exit 0))
 (.seq (.block 1 (.seq (r [M 26 24, L 27 (.indexSl 1 (t 22) (t 24)), L 28 (.load none (t 27)), J 9 26, J 10 28])
 (.seq (r [M 30 0, M 31 1, M 32 10, L 33 (.call (.func 47) [(t 30), (t 31), (t 32)]), M 29 33, L 34 (.extract (t 29) 0), L 35 (.extract (t 29) 1), ⟨(some 11), false, .alloc 4 [.string ⟨#[]⟩, .int .i64 0, .bool false, .string ⟨#[]⟩], none⟩, N (.store 4 (t 11) (t 34) false), J 12 35])
 (.seq (.block 2 (.seq (r [M 37 12, L 38 (.un .not (t 37)), J 36 38])
 (.cond (t 36) (.seq (r [⟨(some 39), true, .build [.string ⟨#[]⟩, .int .i64 0, .bool false, .string ⟨#[]⟩] [], none⟩, N (.store 4 (t 6) (t 39) false), ⟨(some 7), false, .mov (.const (.string ⟨#[]⟩)), none⟩, K 8 (.mov (i 3))])
 (.ret)) (.seq (r [M 41 9, M 42 2, L 43 (.len false (t 42)), L 44 (.bin .sub .none (t 43) (i 1)), L 45 (.bin .eql .none (t 41) (t 44)), J 40 45])
 (.cond (t 40) (.seq (r [L 46 (.load (some 4) (t 11)), M 47 1, N (.store 4 (t 6) (t 46) false), J 7 47, K 8 (.mov (i 0))])
 (.ret)) (.seq (r [L 49 (.fieldAddr 3 (t 11)), L 50 (.load none (t 49)), ⟨(some 51), true, .bin .eql .none (t 50) (.const (.string ⟨#[]⟩)), none⟩, J 48 51])
 (.cond (t 48) (.seq (r [⟨(some 52), true, .build [.string ⟨#[]⟩, .int .i64 0, .bool false, .string ⟨#[]⟩] [], none⟩, N (.store 4 (t 6) (t 52) false), ⟨(some 7), false, .mov (.const (.string ⟨#[]⟩)), none⟩, K 8 (.mov (i 9))])
 (.ret)) (.skip))))))))
 (r [L 53 (.fieldAddr 3 (t 11)), L 54 (.load none (t 53)), J 1 54])))))
 (r [L 55 (.bin .add .none (t 24) (i 1)), J 24 55])))))))
 (.seq (r [⟨(some 56), true, .build [.string ⟨#[]⟩, .int .i64 0, .bool false, .string ⟨#[]⟩] [], none⟩, N (.store 4 (t 6) (t 56) false), ⟨(some 7), false, .mov (.const (.string ⟨#[]⟩)), none⟩, K 8 (.mov (i 3))])
 (.ret))))⟩
def f45 : LFunc := ⟨9, [4, 0, 2], [.tmp 2],
 .seq (r [K 2 (.mov (.const (.pointer none)))])
 (.seq (.seq (r [M 3 0, K 4 (.bin .eql .ptr (t 3) (.const (.pointer none)))])
 (.cond (t 4) (.seq (r [K 2 (.mov (.const (.pointer none)))])
 (.ret)) (.skip)))
 (.seq (r [M 5 0, L 6 (.nilCheck (t 5)), L 7 (.fieldAddr 0 (t 6)), L 8 (.load none (t 7)), J 2 8])
 (.ret)))⟩
def f46 : LFunc := ⟨9, [3, 2, 1, 0, 4], [.tmp 4],
 .seq (r [K 2 (.box 1 (t 0) false), K 3 (.box 1 (t 1) false), K 4 (.mov (.const (.bool false)))])
 (.seq (r [L 5 (.fieldAddr 0 (t 2)), L 6 (.load none (t 5)), L 7 (.makeFunc (.func 92) [] [(t 3)]), L 8 (.call (.func 91) [(t 6), (t 7)]), J 4 8])
 (.ret))⟩
def f47 : LFunc := ⟨28, [21, 10, 2, 8, 1, 0, 6, 7], [.cell 6 (some 4), .tmp 7],
 .seq (r [⟨(some 6), false, .alloc 4 [.string ⟨#[]⟩, .int .i64 0, .bool false, .string ⟨#[]⟩], none⟩, K 7 (.mov (.const (.bool false)))])
 (.seq (r [M 12 0, M 13 1, L 14 (.call (.func 93) [(t 12), (t 13)]), M 11 14, L 15 (.extract (t 11) 0), L 16 (.extract (t 11) 1), ⟨(some 8), false, .alloc 4 [.string ⟨#[]⟩, .slice none 0 0, .string ⟨#[]⟩, .slice none 0 0], none⟩, N (.store 4 (t 8) (t 15) false), M 9 16])
 (.seq (r [L 17 (.load (some 4) (t 8)), M 18 2, L 19 (.call (.func 94) [(t 17), (t 18)]), J 10 19])
 (.seq (.seq (r [M 20 10, K 21 (.bin .lss .none (t 20) (i 0))])
 (.cond (t 21) (.seq (r [⟨(some 22), true, .build [.string ⟨#[]⟩, .int .i64 0, .bool false, .string ⟨#[]⟩] [], none⟩, N (.store 4 (t 6) (t 22) false), K 7 (.mov (.const (.bool false)))])
 (.ret)) (.skip)))
 (.seq (r [L 23 (.fieldAddr 1 (t 8)), L 24 (.load none (t 23)), M 25 10, L 26 (.indexSl 4 (t 24) (t 25)), L 27 (.load (some 4) (t 26)), N (.store 4 (t 6) (t 27) false), K 7 (.mov (.const (.bool true)))])
 (.ret)))))⟩
def f48 : LFunc := ⟨35, [22, 1, 8, 2, 0, 6, 7], [.cell 6 (some 3), .tmp 7],
 .seq (r [⟨(some 6), false, .alloc 3 [.int .i64 0, .int .i64 0, .string ⟨#[]⟩], none⟩, K 7 (.mov (.const (.bool false)))])
 (.seq (r [M 9 0, M 10 2, L 11 (.call (.func 95) [(t 9), (t 10)]), J 8 11])
 (.seq (.seq (r [M 12 8, L 13 (.bin .lss .none (t 12) (i 0)), M 14 13, G 15 14 false (.mov (t 0)), G 16 14 false (.nilCheck (t 15)), G 17 14 false (.fieldAddr 5 (t 16)), G 18 14 false (.load (some 1) (t 17)), G 19 14 false (.mov (t 1)), G 20 14 false (.call (.func 46) [(t 18), (t 19)]), G 21 14 false (.un .not (t 20)), K 22 (.pick (t 14) (.const (.bool true)) (t 21))])
 (.cond (t 22) (.seq (r [⟨(some 23), true, .build [.int .i64 0, .int .i64 0, .string ⟨#[]⟩] [], none⟩, N (.store 3 (t 6) (t 23) false), K 7 (.mov (.const (.bool false)))])
 (.ret)) (.skip)))
 (.seq (r [M 24 0, L 25 (.nilCheck (t 24)), L 26 (.fieldAddr 4 (t 25)), L 27 (.load none (t 26)), M 28 8, L 29 (.indexSl 1 (t 27) (t 28)), L 30 (.load none (t 29)), M 31 1, L 32 (.call (.func 96) [(t 30), (t 31)]), L 33 (.extract (t 32) 0), L 34 (.extract (t 32) 1), N (.store 3 (t 6) (t 33) false), J 7 34])
 (.ret))))⟩
def f49 : LFunc := ⟨41, [39, 11, 10, 29, 28, 25, 5, 9, 8, 1, 0, 2, 6, 7], [.cell 6 none, .cell 7 none],
 .seq (r [K 5 (.box 3 (t 2) false), K 6 (.alloc 1 [.int .i64 0]), K 7 (.alloc 1 [.bool false])])
 (.seq (r [M 13 0, M 14 1, L 15 (.call (.func 12) [(t 13), (t 14)]), K 8 (.alloc 1 [.pointer none]), N (.store 1 (t 8) (t 15) false)])
 (.seq (r [L 16 (.load none (t 8)), L 17 (.call (.func 97) [(t 16)]), L 18 (.field none 2 (t 17)), ⟨(some 9), false, .alloc 1 [.string ⟨#[]⟩], none⟩, N (.store 1 (t 9) (t 18) false)])
 (.seq (.seq (r [L 19 (.load none (t 9)), ⟨(some 20), true, .bin .eql .none (t 19) (.const (.string ⟨#[]⟩)), none⟩, M 21 20, G 22 21 false (.fieldAddr 0 (t 5)), G 23 21 false (.load none (t 22)), G 24 21 false (.bin .eql .none (t 23) (i 0)), K 25 (.pick (t 21) (.const (.bool true)) (t 24))])
 (.cond (t 25) (.seq (r [N (.store 1 (t 6) (i 0) false), N (.store 1 (t 7) (.const (.bool false)) false)])
 (.ret)) (.skip)))
 (.seq (.seq (r [L 26 (.load none (t 8)), L 27 (.call (.func 13) [(t 26)]), K 28 (.call (.func 14) [(t 27)])])
 (.block 0 (.rangeFunc (t 28) [29] (r [J 10 29]) (.block 1 (.seq (r [L 31 (.load none (t 8)), M 32 10, L 33 (.load none (t 9)), L 34 (.call (.func 48) [(t 31), (t 32), (t 33)]), M 30 34, L 35 (.extract (t 30) 0), L 36 (.extract (t 30) 1), ⟨(some 11), false, .alloc 3 [.int .i64 0, .int .i64 0, .string ⟨#[]⟩], none⟩, N (.store 3 (t 11) (t 35) false), M 12 36])
 (.seq (r [L 37 (.load (some 3) (t 11)), L 38 (.load (some 3) (t 5)), K 39 (.call (.func 98) [(t 37), (t 38)])])
 (.cond (t 39) (.seq (r [M 40 10, N (.store 1 (t 6) (t 40) false), N (.store 1 (t 7) (.const (.bool true)) false)])
 (.ret)) (.skip))))))))
 (.seq (r [N (.store 1 (t 6) (i 0) false), N (.store 1 (t 7) (.const (.bool false)) false)])
 (.ret))))))⟩
def f50 : LFunc := ⟨42, [37, 5, 19, 4, 0, 2, 1], [],
 .seq (r [K 4 (.box 3 (t 1) false), K 5 (.box 3 (t 2) false)])
 (.seq (.seq (r [M 6 0, L 7 (.nilCheck (t 6)), L 8 (.fieldAddr 2 (t 7)), L 9 (.load none (t 8)), L 10 (.bin .eql .none (t 9) (i 0)), M 11 10, G 12 11 false (.load (some 3) (t 4)), G 13 11 false (.mov (t 0)), G 14 11 false (.nilCheck (t 13)), G 15 11 false (.fieldAddr 6 (t 14)), G 16 11 false (.load (some 3) (t 15)), G 17 11 false (.call (.func 35) [(t 12), (t 16)]), G 18 11 false (.bin .lss .none (t 17) (i 0)), K 19 (.pick (t 11) (.const (.bool true)) (t 18))])
 (.cond (t 19) (r [M 20 0, L 21 (.load (some 3) (t 4)), L 22 (.nilCheck (t 20)), L 23 (.fieldAddr 6 (t 22)), N (.store 3 (t 23) (t 21) false)]) (.skip)))
 (.seq (r [M 24 0, L 25 (.nilCheck (t 24)), L 26 (.fieldAddr 2 (t 25)), L 27 (.load none (t 26)), L 28 (.bin .eql .none (t 27) (i 0)), M 29 28, G 30 29 false (.load (some 3) (t 5)), G 31 29 false (.mov (t 0)), G 32 29 false (.nilCheck (t 31)), G 33 29 false (.fieldAddr 9 (t 32)), G 34 29 false (.load (some 3) (t 33)), G 35 29 false (.call (.func 35) [(t 30), (t 34)]), G 36 29 false (.bin .gtr .none (t 35) (i 0)), K 37 (.pick (t 29) (.const (.bool true)) (t 36))])
 (.cond (t 37) (r [M 38 0, L 39 (.load (some 3) (t 5)), L 40 (.nilCheck (t 38)), L 41 (.fieldAddr 9 (t 40)), N (.store 3 (t 41) (t 39) false)]) (.skip))))⟩
def f51 : LFunc := ⟨32, [5, 7, 6, 3, 2, 1, 0, 4], [.cell 4 (some 2)],
 .seq (r [K 2 (.box 2 (t 0) false), K 3 (.box 2 (t 1) false), K 4 (.alloc 2 [.int .i64 0, .int .u64 0])])
 (.seq (r [L 10 (.fieldAddr 1 (t 2)), L 11 (.load none (t 10)), L 12 (.fieldAddr 1 (t 3)), L 13 (.load none (t 12)), L 14 (.call (.func 99) [(t 11), (t 13), (.const (.int .u64 0))]), M 9 14, L 15 (.extract (t 9) 0), L 16 (.extract (t 9) 1), J 5 15, J 6 16])
 (.seq (r [L 18 (.fieldAddr 0 (t 2)), L 19 (.load none (t 18)), L 20 (.conv (.int .u64) (t 19)), L 21 (.fieldAddr 0 (t 3)), L 22 (.load none (t 21)), L 23 (.conv (.int .u64) (t 22)), M 24 6, L 25 (.call (.func 99) [(t 20), (t 23), (t 24)]), M 17 25, L 26 (.extract (t 17) 0), L 27 (.extract (t 17) 1), J 7 26, M 8 27])
 (.seq (r [M 28 7, L 29 (.conv (.int .i64) (t 28)), M 30 5, L 31 (.build [.int .i64 0, .int .u64 0] [(0, 1, (t 29)), (1, 1, (t 30))]), N (.store 2 (t 4) (t 31) false)])
 (.ret))))⟩
def f52 : LFunc := ⟨8, [0, 2], [.cell 2 (some 2)],
 .seq (r [K 2 (.alloc 2 [.int .i64 0, .int .u64 0])])
 (.seq (r [M 3 0, L 4 (.bin .shr .none (t 3) (.const (.int .u64 63))), M 5 0, L 6 (.conv (.int .u64) (t 5)), L 7 (.build [.int .i64 0, .int .u64 0] [(0, 1, (t 4)), (1, 1, (t 6))]), N (.store 2 (t 2) (t 7) false)])
 (.ret))⟩
def f53 : LFunc := ⟨37, [7, 6, 5, 2, 1, 0, 4], [.cell 4 (some 2)],
 .seq (r [K 2 (.box 2 (t 0) false), K 4 (.alloc 2 [.int .i64 0, .int .u64 0])])
 (.seq (r [M 8 1, L 9 (.call (.func 52) [(t 8)]), K 5 (.alloc 2 [.int .i64 0, .int .u64 0]), N (.store 2 (t 5) (t 9) false)])
 (.seq (r [L 11 (.fieldAddr 1 (t 2)), L 12 (.load none (t 11)), L 13 (.fieldAddr 1 (t 5)), L 14 (.load none (t 13)), L 15 (.call (.func 100) [(t 12), (t 14)]), M 10 15, L 16 (.extract (t 10) 0), L 17 (.extract (t 10) 1), J 6 16, J 7 17])
 (.seq (r [M 18 6, L 19 (.fieldAddr 0 (t 2)), L 20 (.load none (t 19)), L 21 (.conv (.int .u64) (t 20)), L 22 (.fieldAddr 1 (t 5)), L 23 (.load none (t 22)), L 24 (.bin .mul .none (t 21) (t 23)), L 25 (.fieldAddr 1 (t 2)), L 26 (.load none (t 25)), L 27 (.fieldAddr 0 (t 5)), L 28 (.load none (t 27)), L 29 (.conv (.int .u64) (t 28)), L 30 (.bin .mul .none (t 26) (t 29)), L 31 (.bin .add .none (t 24) (t 30)), L 32 (.bin .add .none (t 18) (t 31)), J 6 32])
 (.seq (r [M 33 6, L 34 (.conv (.int .i64) (t 33)), M 35 7, L 36 (.build [.int .i64 0, .int .u64 0] [(0, 1, (t 34)), (1, 1, (t 35))]), N (.store 2 (t 4) (t 36) false)])
 (.ret)))))⟩
def f54 : LFunc := ⟨48, [25, 2, 7, 15, 8, 4, 0, 1, 6], [.tmp 6],
 .seq (r [K 4 (.box 3 (t 1) false), K 6 (.mov (.const (.bool false)))])
 (.seq (r [M 10 0, L 11 (.load (some 3) (t 4)), L 12 (.call (.func 101) [(t 10), (t 11)]), M 9 12, L 13 (.extract (t 9) 0), L 14 (.extract (t 9) 1), J 7 13, J 8 14])
 (.seq (.block 0 (.seq (r [M 16 8, J 15 16])
 (.cond (t 15) (.seq (r [M 17 0, L 18 (.nilCheck (t 17)), L 19 (.fieldAddr 1 (t 18)), L 20 (.load none (t 19)), M 21 7, M 22 2, L 23 (.indexSl 4 (t 20) (t 21)), L 24 (.fieldAddr 3 (t 23)), N (.store 1 (t 24) (t 22) false)])
 (.seq (r [K 6 (.mov (.const (.bool false)))])
 (.ret))) (.seq (r [M 26 0, L 27 (.bin .eql .ptr (t 26) (.const (.pointer none))), M 28 27, G 29 28 false (.mov (t 0)), G 30 28 false (.nilCheck (t 29)), G 31 28 false (.fieldAddr 0 (t 30)), G 32 28 false (.load none (t 31)), G 33 28 false (.bin .eql .func (t 32) (.const (.nilFunc))), L 34 (.pick (t 28) (.const (.bool true)) (t 33)), J 25 34])
 (.cond (t 25) (.seq (r [K 6 (.mov (.const (.bool false)))])
 (.ret)) (.skip))))))
 (.seq (r [M 35 0, M 36 0, L 37 (.nilCheck (t 36)), L 38 (.fieldAddr 1 (t 37)), L 39 (.load none (t 38)), M 40 7, L 41 (.load (some 3) (t 4)), M 42 2, ⟨(some 43), true, .build [.int .i64 0, .int .i64 0, .string ⟨#[]⟩, .bool false] [(0, 3, (t 41)), (3, 1, (t 42))], none⟩, ⟨(some 44), true, .buildSlice 4 1 [.int .i64 0, .int .i64 0, .string ⟨#[]⟩, .bool false] [(0, 4, (t 43))] false, none⟩, L 45 (.call (.func 102) [(t 39), (t 40), (t 44)]), L 46 (.nilCheck (t 35)), L 47 (.fieldAddr 1 (t 46)), N (.store 1 (t 47) (t 45) false)])
 (.seq (r [K 6 (.mov (.const (.bool true)))])
 (.ret)))))⟩
def f55 : LFunc := ⟨29, [28, 0, 7, 1, 3], [],
 .seq (r [K 3 (.mov (i 0))])
 (.block 0 (.loop [] (.seq (.seq (r [M 4 3, L 5 (.load none (t 1)), L 6 (.call (.func 21) [(t 5)]), K 7 (.bin .lss .none (t 4) (t 6))])
 (.cond (t 7) (.skip) (.exit 0)))
 (.seq (.block 1 (.seq (r [M 10 0, L 11 (.load none (t 1)), L 12 (.nilCheck (t 11)), L 13 (.fieldAddr 1 (t 12)), L 14 (.load none (t 13)), M 15 3, L 16 (.indexSl 2 (t 14) (t 15)), L 17 (.fieldAddr 0 (t 16)), L 18 (.load none (t 17)), L 19 (.load none (t 1)), L 20 (.nilCheck (t 19)), L 21 (.fieldAddr 1 (t 20)), L 22 (.load none (t 21)), M 23 3, L 24 (.indexSl 2 (t 22) (t 23)), L 25 (.fieldAddr 1 (t 24)), L 26 (.load none (t 25)), L 27 (.call (t 10) [(t 18), (t 26)]), K 28 (.un .not (t 27))])
 (.cond (t 28) (.ret) (.skip))))
 (r [M 8 3, L 9 (.bin .add .none (t 8) (i 1)), J 3 9])))))⟩
def f56 : LFunc := ⟨5, [0, 2], [.cell 2 (some 3)],
 .seq (r [⟨(some 2), false, .alloc 3 [.int .i64 0, .int .i64 0, .string ⟨#[]⟩], none⟩])
 (.seq (r [M 3 0, ⟨(some 4), true, .build [.int .i64 0, .int .i64 0, .string ⟨#[]⟩] [(0, 1, (i 1)), (1, 1, (t 3))], none⟩, N (.store 3 (t 2) (t 4) false)])
 (.ret))⟩
def f57 : LFunc := ⟨10, [4, 0, 2], [.tmp 2],
 .seq (r [K 2 (.mov (i 0))])
 (.seq (.seq (r [M 3 0, K 4 (.bin .eql .ptr (t 3) (.const (.pointer none)))])
 (.cond (t 4) (.seq (r [K 2 (.mov (i 0))])
 (.ret)) (.skip)))
 (.seq (r [M 5 0, L 6 (.nilCheck (t 5)), L 7 (.fieldAddr 1 (t 6)), L 8 (.load none (t 7)), L 9 (.len false (t 8)), J 2 9])
 (.ret)))⟩
def f58 : LFunc := ⟨13, [11, 4, 1, 0, 2, 3], [.tmp 2, .tmp 3],
 .seq (r [K 1 (.box 2 (t 0) false), K 2 (.mov (i 0)), K 3 (.mov (.const (.bool false)))])
 (.seq (.seq (r [L 5 (.fieldAddr 1 (t 1)), L 6 (.load none (t 5)), L 7 (.conv (.int .i64) (t 6)), J 4 7])
 (.seq (.region [M 8 4, L 9 (.call (.func 52) [(t 8)]), L 10 (.load (some 2) (t 1)), K 11 (.bin .eql (.flat [1, 1]) (t 9) (t 10))] [(2, 1)])
 (.cond (t 11) (.seq (r [M 12 4, J 2 12, K 3 (.mov (.const (.bool true)))])
 (.ret)) (.skip))))
 (.seq (r [K 2 (.mov (i 0)), K 3 (.mov (.const (.bool false)))])
 (.ret)))⟩
def f59 : LFunc := ⟨46, [9, 39, 7, 23, 6, 15, 2, 11, 1, 0, 4, 5], [.tmp 4, .tmp 5],
 .seq (r [K 2 (.box 2 (t 0) false), K 4 (.mov (i 0)), K 5 (.mov (.const (.bool false)))])
 (.seq (.seq (r [M 10 1, K 11 (.bin .lss .none (t 10) (i 1))])
 (.cond (t 11) (.seq (r [K 4 (.mov (i 0)), K 5 (.mov (.const (.bool false)))])
 (.ret)) (.skip)))
 (.seq (r [L 12 (.load (some 2) (t 2)), K 6 (.alloc 2 [.int .i64 0, .int .u64 0]), N (.store 2 (t 6) (t 12) false)])
 (.seq (.seq (r [L 13 (.fieldAddr 0 (t 2)), L 14 (.load none (t 13)), K 15 (.bin .lss .none (t 14) (i 0))])
 (.cond (t 15) (r [L 16 (.load (some 2) (t 2)), L 17 (.call (.func 103) [(t 16)]), N (.store 2 (t 6) (t 17) false)]) (.skip)))
 (.seq (.seq (r [L 18 (.fieldAddr 0 (t 6)), L 19 (.load none (t 18)), L 20 (.conv (.int .u64) (t 19)), M 21 1, L 22 (.conv (.int .u64) (t 21)), K 23 (.bin .geq .none (t 20) (t 22))])
 (.cond (t 23) (.seq (r [K 4 (.mov (i 0)), K 5 (.mov (.const (.bool false)))])
 (.ret)) (.skip)))
 (.seq (r [L 25 (.fieldAddr 0 (t 6)), L 26 (.load none (t 25)), L 27 (.conv (.int .u64) (t 26)), L 28 (.fieldAddr 1 (t 6)), L 29 (.load none (t 28)), M 30 1, L 31 (.conv (.int .u64) (t 30)), L 32 (.call (.func 104) [(t 27), (t 29), (t 31)]), M 24 32, L 33 (.extract (t 24) 0), L 34 (.extract (t 24) 1), J 7 33, M 8 34])
 (.seq (r [M 35 7, L 36 (.build [.int .i64 0, .int .u64 0] [(0, 1, (i 0)), (1, 1, (t 35))]), K 9 (.alloc 2 [.int .i64 0, .int .u64 0]), N (.store 2 (t 9) (t 36) false)])
 (.seq (.seq (r [L 37 (.fieldAddr 0 (t 2)), L 38 (.load none (t 37)), K 39 (.bin .lss .none (t 38) (i 0))])
 (.cond (t 39) (r [L 40 (.load (some 2) (t 9)), L 41 (.call (.func 103) [(t 40)]), N (.store 2 (t 9) (t 41) false)]) (.skip)))
 (.seq (r [L 42 (.load (some 2) (t 9)), L 43 (.call (.func 58) [(t 42)]), L 44 (.extract (t 43) 0), L 45 (.extract (t 43) 1), J 4 44, J 5 45])
 (.ret)))))))))⟩
def f60 : LFunc := ⟨29, [0], [.tmp 0],
 .seq (r [K 0 (.mov (.const (.slice none 0 0)))])
 (.seq (r [⟨(some 1), true, .build [.string ⟨#[]⟩, .int .i64 0, .bool false, .string ⟨#[]⟩] [(0, 1, (.const (.string ⟨#[105, 100]⟩))), (1, 1, (i 1))], none⟩, ⟨(some 2), true, .build [.string ⟨#[]⟩, .int .i64 0, .bool false, .string ⟨#[]⟩] [(0, 1, (.const (.string ⟨#[110, 97, 109, 101]⟩))), (1, 1, (i 2))], none⟩, ⟨(some 3), true, .buildSlice 4 2 [.string ⟨#[]⟩, .int .i64 0, .bool false, .string ⟨#[]⟩] [(0, 4, (t 1)), (4, 4, (t 2))] false, none⟩, ⟨(some 4), true, .build [.string ⟨#[]⟩, .slice none 0 0, .string ⟨#[]⟩, .slice none 0 0] [(0, 1, (.const (.string ⟨#[108, 97, 110, 100]⟩))), (1, 1, (t 3)), (2, 1, (.const (.string ⟨#[105, 100]⟩)))], none⟩, ⟨(some 5), true, .build [.string ⟨#[]⟩, .int .i64 0, .bool false, .string ⟨#[]⟩] [(0, 1, (.const (.string ⟨#[105, 100]⟩))), (1, 1, (i 1))], none⟩, ⟨(some 6), true, .build [.string ⟨#[]⟩, .int .i64 0, .bool false, .string ⟨#[]⟩] [(0, 1, (.const (.string ⟨#[99, 105, 116, 121]⟩))), (1, 1, (i 2)), (2, 1, (.const (.bool true)))], none⟩, ⟨(some 7), true, .build [.string ⟨#[]⟩, .int .i64 0, .bool false, .string ⟨#[]⟩] [(0, 1, (.const (.string ⟨#[122, 111, 110, 101]⟩))), (1, 1, (i 2))], none⟩, ⟨(some 8), true, .build [.string ⟨#[]⟩, .int .i64 0, .bool false, .string ⟨#[]⟩] [(0, 1, (.const (.string ⟨#[108, 97, 110, 100]⟩))), (1, 1, (i 1)), (3, 1, (.const (.string ⟨#[108, 97, 110, 100]⟩)))], none⟩, ⟨(some 9), true, .buildSlice 4 4 [.string ⟨#[]⟩, .int .i64 0, .bool false, .string ⟨#[]⟩] [(0, 4, (t 5)), (4, 4, (t 6)), (8, 4, (t 7)), (12, 4, (t 8))] false, none⟩, ⟨(some 10), true, .buildSlice 1 1 [.string ⟨#[]⟩] [(0, 1, (.const (.string ⟨#[99, 105, 116, 121]⟩)))] false, none⟩, ⟨(some 11), true, .build [.slice none 0 0, .string ⟨#[]⟩] [(0, 1, (t 10)), (1, 1, (.const (.string ⟨#[122, 111, 110, 101]⟩)))], none⟩, ⟨(some 12), true, .buildSlice 2 1 [.slice none 0 0, .string ⟨#[]⟩] [(0, 2, (t 11))] false, none⟩, ⟨(some 13), true, .build [.string ⟨#[]⟩, .slice none 0 0, .string ⟨#[]⟩, .slice none 0 0] [(0, 1, (.const (.string ⟨#[115, 104, 111, 112]⟩))), (1, 1, (t 9)), (2, 1, (.const (.string ⟨#[105, 100]⟩))), (3, 1, (t 12))], none⟩, ⟨(some 14), true, .build [.string ⟨#[]⟩, .int .i64 0, .bool false, .string ⟨#[]⟩] [(0, 1, (.const (.string ⟨#[100]⟩))), (1, 1, (i 2))], none⟩, ⟨(some 15), true, .build [.string ⟨#[]⟩, .int .i64 0, .bool false, .string ⟨#[]⟩] [(0, 1, (.const (.string ⟨#[109, 111, 110, 116, 104]⟩))), (1, 1, (i 1)), (2, 1, (.const (.bool true)))], none⟩, ⟨(some 16), true, .build [.string ⟨#[]⟩, .int .i64 0, .bool false, .string ⟨#[]⟩] [(0, 1, (.const (.string ⟨#[121, 101, 97, 114]⟩))), (1, 1, (i 1))], none⟩, ⟨(some 17), true, .buildSlice 4 3 [.string ⟨#[]⟩, .int .i64 0, .bool false, .string ⟨#[]⟩] [(0, 4, (t 14)), (4, 4, (t 15)), (8, 4, (t 16))] false, none⟩, ⟨(some 18), true, .buildSlice 1 1 [.string ⟨#[]⟩] [(0, 1, (.const (.string ⟨#[109, 111, 110, 116, 104]⟩)))] false, none⟩, ⟨(some 19), true, .build [.slice none 0 0, .string ⟨#[]⟩] [(0, 1, (t 18)), (1, 1, (.const (.string ⟨#[121, 101, 97, 114]⟩)))], none⟩, ⟨(some 20), true, .buildSlice 2 1 [.slice none 0 0, .string ⟨#[]⟩] [(0, 2, (t 19))] false, none⟩, ⟨(some 21), true, .build [.string ⟨#[]⟩, .slice none 0 0, .string ⟨#[]⟩, .slice none 0 0] [(0, 1, (.const (.string ⟨#[100, 97, 121]⟩))), (1, 1, (t 17)), (2, 1, (.const (.string ⟨#[100]⟩))), (3, 1, (t 20))], none⟩, ⟨(some 22), true, .build [.string ⟨#[]⟩, .int .i64 0, .bool false, .string ⟨#[]⟩] [(0, 1, (.const (.string ⟨#[115, 104, 111, 112]⟩))), (1, 1, (i 1)), (3, 1, (.const (.string ⟨#[115, 104, 111, 112]⟩)))], none⟩, ⟨(some 23), true, .build [.string ⟨#[]⟩, .int .i64 0, .bool false, .string ⟨#[]⟩] [(0, 1, (.const (.string ⟨#[100, 97, 121]⟩))), (1, 1, (i 2)), (3, 1, (.const (.string ⟨#[100, 97, 121]⟩)))], none⟩, ⟨(some 24), true, .build [.string ⟨#[]⟩, .int .i64 0, .bool false, .string ⟨#[]⟩] [(0, 1, (.const (.string ⟨#[110]⟩))), (1, 1, (i 1))], none⟩, ⟨(some 25), true, .build [.string ⟨#[]⟩, .int .i64 0, .bool false, .string ⟨#[]⟩] [(0, 1, (.const (.string ⟨#[116, 97, 103]⟩))), (1, 1, (i 2))], none⟩, ⟨(some 26), true, .buildSlice 4 4 [.string ⟨#[]⟩, .int .i64 0, .bool false, .string ⟨#[]⟩] [(0, 4, (t 22)), (4, 4, (t 23)), (8, 4, (t 24)), (12, 4, (t 25))] false, none⟩, ⟨(some 27), true, .build [.string ⟨#[]⟩, .slice none 0 0, .string ⟨#[]⟩, .slice none 0 0] [(0, 1, (.const (.string ⟨#[115, 97, 108, 101]⟩))), (1, 1, (t 26))], none⟩, ⟨(some 28), true, .buildSlice 4 4 [.string ⟨#[]⟩, .slice none 0 0, .string ⟨#[]⟩, .slice none 0 0] [(0, 4, (t 4)), (4, 4, (t 13)), (8, 4, (t 21)), (12, 4, (t 27))] false, none⟩, J 0 28])
 (.ret))⟩
def f61 : LFunc := ⟨37, [6, 17, 5, 3, 9, 0, 1, 4], [.tmp 4],
 .seq (r [K 3 (.box 4 (t 1) false), K 4 (.mov (i 0))])
 (.seq (.seq (r [M 8 0, K 9 (.bin .eql .ptr (t 8) (.const (.pointer none)))])
 (.cond (t 9) (.seq (r [K 4 (.mov (i 6))])
 (.ret)) (.skip)))
 (.seq (.seq (r [M 10 0, L 11 (.nilCheck (t 10)), L 12 (.fieldAddr 0 (t 11)), L 13 (.load none (t 12)), L 14 (.load (some 4) (t 3)), L 15 (.call (.func 105) [(t 13), (t 14)]), J 5 15])
 (.seq (r [M 16 5, K 17 (.bin .neq .none (t 16) (i 0))])
 (.cond (t 17) (.seq (r [M 18 5, J 4 18])
 (.ret)) (.skip))))
 (.seq (r [M 20 0, L 21 (.nilCheck (t 20)), L 22 (.fieldAddr 0 (t 21)), L 23 (.load none (t 22)), L 24 (.fieldAddr 0 (t 3)), L 25 (.load none (t 24)), L 26 (.call (.func 93) [(t 23), (t 25)]), M 19 26, L 27 (.extract (t 19) 0), L 28 (.extract (t 19) 1), ⟨(some 6), false, .alloc 4 [.string ⟨#[]⟩, .slice none 0 0, .string ⟨#[]⟩, .slice none 0 0], none⟩, N (.store 4 (t 6) (t 27) false), M 7 28])
 (.seq (.region [M 29 0, L 30 (.nilCheck (t 29)), L 31 (.fieldAddr 1 (t 30)), L 32 (.load none (t 31)), L 33 (.fieldAddr 0 (t 3)), L 34 (.load none (t 33)), L 35 (.load (some 4) (t 6)), L 36 (.call (.func 106) [(t 35)]), N (.mapUpdate 2 (t 32) (t 34) (t 36))] [(3, 7), (5, 7)])
 (.seq (r [K 4 (.mov (i 0))])
 (.ret))))))⟩
def f62 : LFunc := ⟨44, [13, 5, 3, 0, 1, 4], [.tmp 4],
 .seq (r [K 3 (.box 4 (t 1) false), K 4 (.mov (i 0))])
 (.seq (.seq (r [M 6 0, L 7 (.nilCheck (t 6)), L 8 (.fieldAddr 0 (t 7)), L 9 (.load none (t 8)), L 10 (.load (some 4) (t 3)), L 11 (.call (.func 107) [(t 9), (t 10)]), J 5 11])
 (.seq (r [M 12 5, K 13 (.bin .neq .none (t 12) (i 0))])
 (.cond (t 13) (.seq (r [M 14 5, J 4 14])
 (.ret)) (.skip))))
 (.seq (.region [M 15 0, M 16 0, L 17 (.nilCheck (t 16)), L 18 (.fieldAddr 0 (t 17)), L 19 (.load none (t 18)), L 20 (.load (some 4) (t 3)), L 21 (.call (.func 108) [(t 20)]), ⟨(some 22), true, .buildSlice 4 1 [.string ⟨#[]⟩, .slice none 0 0, .string ⟨#[]⟩, .slice none 0 0] [(0, 4, (t 21))] false, none⟩, L 23 (.append 4 80 (t 19) (t 22)), L 24 (.nilCheck (t 15)), L 25 (.fieldAddr 0 (t 24)), N (.store 1 (t 25) (t 23) false)] [(4, 6)])
 (.seq (.region [M 26 0, M 27 0, M 28 0, L 29 (.nilCheck (t 28)), L 30 (.fieldAddr 1 (t 29)), L 31 (.load none (t 30)), L 32 (.buildSlice 1 1 [.slice none 0 0] [(0, 1, (.const (.slice none 0 0)))] false), L 33 (.append 1 24 (t 31) (t 32)), M 34 0, L 35 (.nilCheck (t 34)), L 36 (.fieldAddr 2 (t 35)), L 37 (.load none (t 36)), L 38 (.buildSlice 1 1 [.int .i64 0] [(0, 1, (i 0))] false), L 39 (.append 1 8 (t 37) (t 38)), L 40 (.nilCheck (t 26)), L 41 (.fieldAddr 1 (t 40)), N (.store 1 (t 41) (t 33) false), L 42 (.nilCheck (t 27)), L 43 (.fieldAddr 2 (t 42)), N (.store 1 (t 43) (t 39) false)] [(11, 7)])
 (.seq (r [K 4 (.mov (i 0))])
 (.ret)))))⟩
def f63 : LFunc := ⟨10, [3, 2, 1, 0, 4], [.cell 4 (some 5)],
 .seq (r [K 2 (.box 1 (t 0) false), K 3 (.box 4 (t 1) false), ⟨(some 4), false, .alloc 5 [.int .i64 0, .int .i64 0, .string ⟨#[]⟩, .int .i64 0, .string ⟨#[]⟩], none⟩])
 (.seq (r [L 5 (.makeFunc (.func 110) [] [(t 2), (t 3)]), L 6 (.makeFunc (.func 112) [] [(t 2), (t 3)]), L 7 (.makeFunc (.func 114) [] [(t 2), (t 3)]), L 8 (.buildSlice 1 3 [.nilFunc] [(0, 1, (t 5)), (1, 1, (t 6)), (2, 1, (t 7))] false), L 9 (.call (.func 109) [(t 8)]), N (.store 5 (t 4) (t 9) false)])
 (.ret))⟩
def f64 : LFunc := ⟨20, [18, 1, 9, 0, 5, 4], [.tmp 4],
 .seq (r [K 4 (.mov (i 0))])
 (.seq (.seq (r [K 5 (.mov (i 0))])
 (.block 0 (.loop [] (.seq (.seq (r [M 6 5, M 7 0, L 8 (.len false (t 7)), K 9 (.bin .lss .none (t 6) (t 8))])
 (.cond (t 9) (.skip) (.exit 0)))
 (.seq (.block 1 (.seq (r [M 12 0, M 13 5, L 14 (.indexSl 4 (t 12) (t 13)), L 15 (.fieldAddr 0 (t 14)), L 16 (.load none (t 15)), M 17 1, K 18 (.bin .eql .none (t 16) (t 17))])
 (.cond (t 18) (.seq (r [M 19 5, J 4 19])
 (.ret)) (.skip))))
 (r [M 10 5, L 11 (.bin .add .none (t 10) (i 1)), J 5 11]))))))
 (.seq (r [K 4 (.mov (i (-1)))])
 (.ret)))⟩
def f65 : LFunc := ⟨84, [9, 8, 41, 44, 42, 43, 39, 7, 6, 28, 31, 29, 30, 19, 1, 13, 10, 0, 4, 5], [.tmp 4, .tmp 5],
 .seq (r [K 4 (.mov (i 0)), K 5 (.mov (i 0))])
 (.seq (.block 0 (.seq (r [M 11 0, L 12 (.bin .eql .ptr (t 11) (.const (.pointer none))), J 10 12])
 (.cond (t 10) (.seq (r [K 4 (.mov (i 0)), K 5 (.mov (i 6))])
 (.ret)) (.seq (r [M 14 0, L 15 (.nilCheck (t 14)), L 16 (.fieldAddr 6 (t 15)), L 17 (.load none (t 16)), L 18 (.bin .geq .none (t 17) (i 65536)), J 13 18])
 (.cond (t 13) (.seq (r [K 4 (.mov (i 0)), K 5 (.mov (i 5))])
 (.ret)) (.seq (r [M 20 1, L 21 (.len false (t 20)), M 22 0, L 23 (.nilCheck (t 22)), L 24 (.fieldAddr 4 (t 23)), L 25 (.load none (t 24)), L 26 (.len false (t 25)), L 27 (.bin .neq .none (t 21) (t 26)), J 19 27])
 (.cond (t 19) (.seq (r [K 4 (.mov (i 0)), K 5 (.mov (i 1))])
 (.ret)) (.skip))))))))
 (.seq (.seq (r [J 28 1, K 29 (.len false (t 28)), K 30 (.mov (i 0))])
 (.block 1 (.loop [] (.seq (r [K 31 (.bin .lss .none (t 30) (t 29))])
 (.seq (.cond (t 31) (.skip) (.exit 1))
 (.seq (.block 2 (.seq (r [M 32 30, L 33 (.indexSl 3 (t 28) (t 30)), L 34 (.load (some 3) (t 33)), ⟨(some 7), false, .alloc 3 [.int .i64 0, .int .i64 0, .string ⟨#[]⟩], none⟩, J 6 32, N (.store 3 (t 7) (t 34) false)])
 (.seq (r [M 35 0, M 36 6, L 37 (.load (some 3) (t 7)), L 38 (.call (.func 116) [(t 35), (t 36), (t 37)]), K 39 (.un .not (t 38))])
 (.cond (t 39) (.seq (r [K 4 (.mov (i 0)), K 5 (.mov (i 4))])
 (.ret)) (.skip)))))
 (r [L 40 (.bin .add .none (t 30) (i 1)), J 30 40])))))))
 (.seq (.seq (r [J 41 1, K 42 (.len false (t 41)), K 43 (.mov (i 0))])
 (.block 3 (.loop [] (.seq (r [K 44 (.bin .lss .none (t 43) (t 42))])
 (.seq (.cond (t 44) (.skip) (.exit 3))
 (.seq (.block 4 (.seq (r [M 45 43, L 46 (.indexSl 3 (t 41) (t 43)), L 47 (.load (some 3) (t 46)), ⟨(some 9), false, .alloc 3 [.int .i64 0, .int .i64 0, .string ⟨#[]⟩], none⟩, J 8 45, N (.store 3 (t 9) (t 47) false)])
 (r [M 48 0, L 49 (.nilCheck (t 48)), L 50 (.fieldAddr 4 (t 49)), L 51 (.load none (t 50)), M 52 8, L 53 (.indexSl 1 (t 51) (t 52)), L 54 (.load none (t 53)), L 55 (.load (some 3) (t 9)), L 56 (.call (.func 117) [(t 54), (t 55)])])))
 (r [L 57 (.bin .add .none (t 43) (i 1)), J 43 57])))))))
 (.seq (.region [M 58 0, M 59 0, L 60 (.nilCheck (t 59)), L 61 (.fieldAddr 5 (t 60)), L 62 (.load (some 1) (t 61)), M 63 0, L 64 (.nilCheck (t 63)), L 65 (.fieldAddr 6 (t 64)), L 66 (.load none (t 65)), L 67 (.buildSlice 1 1 [.int .i64 0] [(0, 1, (t 66))] false), L 68 (.call (.func 119) [(t 67)]), L 69 (.call (.func 118) [(t 62), (t 68)]), L 70 (.nilCheck (t 58)), L 71 (.fieldAddr 5 (t 70)), N (.store 1 (t 71) (t 69) false)] [(4, 10)])
 (.seq (r [M 72 0, L 73 (.nilCheck (t 72)), L 74 (.fieldAddr 6 (t 73)), L 75 (.load none (t 74)), L 76 (.bin .add .none (t 75) (i 1)), L 77 (.nilCheck (t 72)), L 78 (.fieldAddr 6 (t 77)), N (.store 1 (t 78) (t 76) false)])
 (.seq (r [M 79 0, L 80 (.nilCheck (t 79)), L 81 (.fieldAddr 6 (t 80)), L 82 (.load none (t 81)), L 83 (.bin .sub .none (t 82) (i 1)), J 4 83, K 5 (.mov (i 0))])
 (.ret)))))))⟩
def f66 : LFunc := ⟨89, [9, 52, 33, 8, 29, 2, 17, 1, 0, 6, 7], [.tmp 6, .tmp 7],
 .seq (r [K 6 (.mov (i 0)), K 7 (.mov (i 0))])
 (.seq (.seq (r [M 10 0, L 11 (.nilCheck (t 10)), L 12 (.fieldAddr 2 (t 11)), L 13 (.load none (t 12)), M 14 1, L 15 (.indexSl 1 (t 13) (t 14)), L 16 (.load none (t 15)), K 17 (.bin .geq .none (t 16) (i 65536))])
 (.cond (t 17) (.seq (r [K 6 (.mov (i 0)), K 7 (.mov (i 5))])
 (.ret)) (.skip)))
 (.seq (.seq (r [M 18 2, L 19 (.len false (t 18)), M 20 0, L 21 (.nilCheck (t 20)), L 22 (.fieldAddr 0 (t 21)), L 23 (.load none (t 22)), M 24 1, L 25 (.indexSl 4 (t 23) (t 24)), L 26 (.fieldAddr 1 (t 25)), L 27 (.load none (t 26)), L 28 (.len false (t 27)), K 29 (.bin .neq .none (t 19) (t 28))])
 (.cond (t 29) (.seq (r [K 6 (.mov (i 0)), K 7 (.mov (i 1))])
 (.ret)) (.skip)))
 (.seq (.seq (r [K 8 (.mov (i 0))])
 (.block 0 (.loop [] (.seq (.seq (r [M 30 8, M 31 2, L 32 (.len false (t 31)), K 33 (.bin .lss .none (t 30) (t 32))])
 (.cond (t 33) (.skip) (.exit 0)))
 (.seq (.block 1 (.seq (r [M 36 2, M 37 8, L 38 (.indexSl 3 (t 36) (t 37)), L 39 (.load (some 3) (t 38)), M 40 0, L 41 (.nilCheck (t 40)), L 42 (.fieldAddr 0 (t 41)), L 43 (.load none (t 42)), M 44 1, L 45 (.indexSl 4 (t 43) (t 44)), L 46 (.fieldAddr 1 (t 45)), L 47 (.load none (t 46)), M 48 8, L 49 (.indexSl 4 (t 47) (t 48)), L 50 (.load (some 4) (t 49)), L 51 (.call (.func 120) [(t 39), (t 50)]), K 52 (.un .not (t 51))])
 (.cond (t 52) (.seq (r [K 6 (.mov (i 0)), K 7 (.mov (i 4))])
 (.ret)) (.skip))))
 (r [M 34 8, L 35 (.bin .add .none (t 34) (i 1)), J 8 35]))))))
 (.seq (r [M 53 0, L 54 (.nilCheck (t 53)), L 55 (.fieldAddr 2 (t 54)), L 56 (.load none (t 55)), M 57 1, L 58 (.indexSl 1 (t 56) (t 57)), L 59 (.load none (t 58)), J 9 59])
 (.seq (r [M 60 0, L 61 (.nilCheck (t 60)), L 62 (.fieldAddr 2 (t 61)), L 63 (.load none (t 62)), M 64 1, L 65 (.indexSl 1 (t 63) (t 64)), L 66 (.load none (t 65)), L 67 (.bin .add .none (t 66) (i 1)), L 68 (.indexSl 1 (t 63) (t 64)), N (.store 1 (t 68) (t 67) false)])
 (.seq (.region [M 69 0, L 70 (.nilCheck (t 69)), L 71 (.fieldAddr 1 (t 70)), L 72 (.load none (t 71)), M 73 1, M 74 0, L 75 (.nilCheck (t 74)), L 76 (.fieldAddr 1 (t 75)), L 77 (.load none (t 76)), M 78 1, L 79 (.indexSl 1 (t 77) (t 78)), L 80 (.load none (t 79)), M 81 9, M 82 2, L 83 (.append 3 32 (.const (.slice none 0 0)) (t 82)), L 84 (.build [.int .i64 0, .slice none 0 0] [(0, 1, (t 81)), (1, 1, (t 83))]), L 85 (.buildSlice 2 1 [.int .i64 0, .slice none 0 0] [(0, 2, (t 84))] false), L 86 (.append 2 32 (t 80) (t 85)), L 87 (.indexSl 1 (t 72) (t 73)), N (.store 1 (t 87) (t 86) false)] [(3, 14), (3, 17), (8, 14), (11, 14)])
 (.seq (r [M 88 9, J 6 88, K 7 (.mov (i 0))])
 (.ret))))))))⟩
def f67 : LFunc := ⟨43, [6, 32, 35, 33, 34, 17, 1, 0, 4], [.tmp 4],
 .seq (r [K 4 (.mov (.const (.bool false)))])
 (.seq (.seq (r [M 7 0, L 8 (.bin .eql .ptr (t 7) (.const (.pointer none))), M 9 8, G 10 9 false (.mov (t 0)), G 11 9 false (.nilCheck (t 10)), G 12 9 false (.fieldAddr 5 (t 11)), G 13 9 false (.load (some 1) (t 12)), G 14 9 false (.mov (t 1)), G 15 9 false (.call (.func 46) [(t 13), (t 14)]), G 16 9 false (.un .not (t 15)), K 17 (.pick (t 9) (.const (.bool true)) (t 16))])
 (.cond (t 17) (.seq (r [K 4 (.mov (.const (.bool false)))])
 (.ret)) (.skip)))
 (.seq (.region [M 18 0, M 19 0, L 20 (.nilCheck (t 19)), L 21 (.fieldAddr 5 (t 20)), L 22 (.load (some 1) (t 21)), M 23 1, L 24 (.buildSlice 1 1 [.int .i64 0] [(0, 1, (t 23))] false), L 25 (.call (.func 119) [(t 24)]), L 26 (.call (.func 121) [(t 22), (t 25)]), L 27 (.nilCheck (t 18)), L 28 (.fieldAddr 5 (t 27)), N (.store 1 (t 28) (t 26) false)] [(4, 7)])
 (.seq (.seq (r [M 29 0, L 30 (.nilCheck (t 29)), L 31 (.fieldAddr 4 (t 30)), K 32 (.load none (t 31)), K 33 (.len false (t 32)), K 34 (.mov (i 0))])
 (.block 0 (.loop [] (.seq (r [K 35 (.bin .lss .none (t 34) (t 33))])
 (.seq (.cond (t 35) (.skip) (.exit 0))
 (.seq (.block 1 (.seq (r [L 36 (.indexSl 1 (t 32) (t 34)), L 37 (.load none (t 36)), J 6 37])
 (r [M 38 6, M 39 1, ⟨(some 40), true, .build [.int .i64 0, .int .i64 0, .string ⟨#[]⟩] [], none⟩, L 41 (.call (.func 122) [(t 38), (t 39), (t 40)])])))
 (r [L 42 (.bin .add .none (t 34) (i 1)), J 34 42])))))))
 (.seq (r [K 4 (.mov (.const (.bool true)))])
 (.ret)))))⟩
def f69 : LFunc := ⟨44, [28, 7, 25, 9, 13, 1, 2, 0, 3, 8], [.tmp 8],
 .seq (r [K 7 (.box 3 (t 3) false), K 8 (.mov (i 0))])
 (.seq (r [M 10 0, M 11 2, L 12 (.call (.func 95) [(t 10), (t 11)]), J 9 12])
 (.seq (.block 0 (.seq (r [M 14 0, L 15 (.bin .eql .ptr (t 14) (.const (.pointer none))), M 16 15, G 17 16 false (.mov (t 0)), G 18 16 false (.nilCheck (t 17)), G 19 16 false (.fieldAddr 5 (t 18)), G 20 16 false (.load (some 1) (t 19)), G 21 16 false (.mov (t 1)), G 22 16 false (.call (.func 46) [(t 20), (t 21)]), G 23 16 false (.un .not (t 22)), L 24 (.pick (t 16) (.const (.bool true)) (t 23)), J 13 24])
 (.cond (t 13) (.seq (r [K 8 (.mov (i 6))])
 (.ret)) (.seq (r [M 26 9, L 27 (.bin .lss .none (t 26) (i 0)), J 25 27])
 (.cond (t 25) (.seq (r [K 8 (.mov (i 3))])
 (.ret)) (.seq (r [M 29 0, M 30 9, L 31 (.load (some 3) (t 7)), L 32 (.call (.func 116) [(t 29), (t 30), (t 31)]), L 33 (.un .not (t 32)), J 28 33])
 (.cond (t 28) (.seq (r [K 8 (.mov (i 4))])
 (.ret)) (.skip))))))))
 (.seq (r [M 34 0, L 35 (.nilCheck (t 34)), L 36 (.fieldAddr 4 (t 35)), L 37 (.load none (t 36)), M 38 9, L 39 (.indexSl 1 (t 37) (t 38)), L 40 (.load none (t 39)), M 41 1, L 42 (.load (some 3) (t 7)), L 43 (.call (.func 122) [(t 40), (t 41), (t 42)])])
 (.seq (r [K 8 (.mov (i 0))])
 (.ret)))))⟩
def f71 : LFunc := ⟨157, [9, 7, 5, 86, 4, 6, 2, 3, 20, 1, 0], [.tmp 0],
 .seq (r [K 0 (.mov (.const (.bool false)))])
 (.seq (r [L 11 (.call (.func 25) []), M 10 11, L 12 (.extract (t 10) 0), L 13 (.extract (t 10) 1), J 1 12, J 2 13])
 (.seq (.seq (r [M 14 1, L 15 (.bin .eql .ptr (t 14) (.const (.pointer none))), M 16 15, G 17 16 false (.mov (t 1)), ⟨(some 18), true, .call (.func 12) [(t 17), (.const (.string ⟨#[108, 97, 110, 100]⟩))], (some (16, false))⟩, G 19 16 false (.bin .eql .ptr (t 18) (.const (.pointer none))), K 20 (.pick (t 16) (.const (.bool true)) (t 19))])
 (.cond (t 20) (.seq (r [K 0 (.mov (.const (.bool false)))])
 (.ret)) (.skip)))
 (.seq (r [⟨(some 21), true, .buildSlice 1 1 [.string ⟨#[]⟩] [(0, 1, (.const (.string ⟨#[110, 97, 109, 101]⟩)))] false, none⟩, L 22 (.buildSlice 1 1 [.slice none 0 0] [(0, 1, (t 21))] false), ⟨(some 23), true, .buildSlice 1 1 [.string ⟨#[]⟩] [(0, 1, (.const (.string ⟨#[105, 100]⟩)))] false, none⟩, L 24 (.build [.int .i64 0, .slice none 0 0] [(0, 1, (i 3)), (1, 1, (t 23))]), L 25 (.build [.int .i64 0, .slice none 0 0] [(0, 1, (i 1))]), L 26 (.buildSlice 2 2 [.int .i64 0, .slice none 0 0] [(0, 2, (t 24)), (2, 2, (t 25))] false), ⟨(some 27), true, .build [.string ⟨#[]⟩, .slice none 0 0, .int .i64 0, .slice none 0 0, .slice none 0 0, .slice none 0 0, .slice none 0 0, .int .i64 0, .string ⟨#[]⟩] [(0, 1, (.const (.string ⟨#[108, 97, 110, 100]⟩))), (2, 1, (i 1)), (3, 1, (t 22)), (4, 1, (t 26))], none⟩, ⟨(some 3), false, .alloc 9 [.string ⟨#[]⟩, .slice none 0 0, .int .i64 0, .slice none 0 0, .slice none 0 0, .slice none 0 0, .slice none 0 0, .int .i64 0, .string ⟨#[]⟩], none⟩, N (.store 9 (t 3) (t 27) false)])
 (.seq (r [M 29 1, L 30 (.load (some 9) (t 3)), L 31 (.call (.func 125) [(t 29), (t 30)]), M 28 31, L 32 (.extract (t 28) 0), L 33 (.extract (t 28) 1), J 4 32, J 5 33])
 (.seq (r [M 34 1, M 35 2, L 36 (.call (.func 126) [(i 1)]), ⟨(some 37), true, .call (.func 127) [(.const (.string ⟨#[97]⟩))], none⟩, ⟨(some 38), true, .buildSlice 3 2 [.int .i64 0, .int .i64 0, .string ⟨#[]⟩] [(0, 3, (t 36)), (3, 3, (t 37))] false, none⟩, ⟨(some 39), true, .build [.int .i64 0, .string ⟨#[]⟩, .int .i64 0, .string ⟨#[]⟩, .slice none 0 0] [(0, 1, (i 1)), (1, 1, (.const (.string ⟨#[108, 97, 110, 100]⟩))), (4, 1, (t 38))], none⟩, L 40 (.call (.func 126) [(i 5)]), ⟨(some 41), true, .call (.func 127) [(.const (.string ⟨#[97]⟩))], none⟩, ⟨(some 42), true, .buildSlice 3 2 [.int .i64 0, .int .i64 0, .string ⟨#[]⟩] [(0, 3, (t 40)), (3, 3, (t 41))] false, none⟩, ⟨(some 43), true, .build [.int .i64 0, .string ⟨#[]⟩, .int .i64 0, .string ⟨#[]⟩, .slice none 0 0] [(0, 1, (i 1)), (1, 1, (.const (.string ⟨#[108, 97, 110, 100]⟩))), (4, 1, (t 42))], none⟩, L 44 (.call (.func 126) [(i 7)]), ⟨(some 45), true, .build [.int .i64 0, .int .i64 0, .string ⟨#[]⟩] [], none⟩, ⟨(some 46), true, .buildSlice 3 2 [.int .i64 0, .int .i64 0, .string ⟨#[]⟩] [(0, 3, (t 44)), (3, 3, (t 45))] false, none⟩, ⟨(some 47), true, .build [.int .i64 0, .string ⟨#[]⟩, .int .i64 0, .string ⟨#[]⟩, .slice none 0 0] [(0, 1, (i 1)), (1, 1, (.const (.string ⟨#[108, 97, 110, 100]⟩))), (4, 1, (t 46))], none⟩, ⟨(some 48), true, .buildSlice 5 3 [.int .i64 0, .string ⟨#[]⟩, .int .i64 0, .string ⟨#[]⟩, .slice none 0 0] [(0, 5, (t 39)), (5, 5, (t 43)), (10, 5, (t 47))] false, none⟩, L 49 (.call (.func 27) [(t 34), (t 35), (t 48)])])
 (.seq (r [M 51 1, L 52 (.load (some 9) (t 3)), L 53 (.call (.func 125) [(t 51), (t 52)]), M 50 53, L 54 (.extract (t 50) 0), L 55 (.extract (t 50) 1), J 6 54, J 7 55])
 (.seq (r [L 56 (.fieldAddr 0 (t 3)), ⟨none, false, .store 1 (t 56) (.const (.string ⟨#[120]⟩)) false, none⟩])
 (.seq (r [M 58 1, L 59 (.load (some 9) (t 3)), L 60 (.call (.func 125) [(t 58), (t 59)]), M 57 60, L 61 (.extract (t 57) 0), L 62 (.extract (t 57) 1), M 8 61, J 9 62])
 (.seq (.seq (r [M 63 6, L 64 (.len false (t 63)), L 65 (.bin .neq .none (t 64) (i 3)), M 66 65, G 67 66 false (.mov (t 4)), G 68 66 false (.len false (t 67)), G 69 66 false (.bin .neq .none (t 68) (i 1)), L 70 (.pick (t 66) (.const (.bool true)) (t 69)), M 71 70, G 72 71 false (.mov (t 6)), G 73 71 false (.indexSl 2 (t 72) (i 0)), G 74 71 false (.fieldAddr 1 (t 73)), G 75 71 false (.load none (t 74)), G 76 71 false (.len false (t 75)), G 77 71 false (.bin .neq .none (t 76) (i 3)), L 78 (.pick (t 71) (.const (.bool true)) (t 77)), M 79 78, G 80 79 false (.mov (t 6)), G 81 79 false (.indexSl 2 (t 80) (i 2)), G 82 79 false (.fieldAddr 1 (t 81)), G 83 79 false (.load none (t 82)), G 84 79 false (.len false (t 83)), G 85 79 false (.bin .neq .none (t 84) (i 3)), K 86 (.pick (t 79) (.const (.bool true)) (t 85))])
 (.cond (t 86) (.seq (r [K 0 (.mov (.const (.bool false)))])
 (.ret)) (.skip)))
 (.seq (r [L 87 (.call (.func 128) []), M 88 87, G 89 88 true (.call (.func 129) []), L 90 (.pick (t 88) (t 89) (.const (.bool false))), M 91 90, G 92 91 true (.call (.func 130) []), L 93 (.pick (t 91) (t 92) (.const (.bool false))), M 94 93, G 95 94 true (.mov (t 5)), G 96 94 true (.bin .eql .none (t 95) (i 0)), L 97 (.pick (t 94) (t 96) (.const (.bool false))), M 98 97, G 99 98 true (.mov (t 7)), G 100 98 true (.bin .eql .none (t 99) (i 0)), L 101 (.pick (t 98) (t 100) (.const (.bool false))), M 102 101, G 103 102 true (.mov (t 6)), G 104 102 true (.indexSl 2 (t 103) (i 0)), G 105 102 true (.fieldAddr 0 (t 104)), G 106 102 true (.load none (t 105)), G 107 102 true (.bin .eql .none (t 106) (i 1)), L 108 (.pick (t 102) (t 107) (.const (.bool false))), M 109 108, G 110 109 true (.mov (t 6)), G 111 109 true (.indexSl 2 (t 110) (i 0)), G 112 109 true (.fieldAddr 1 (t 111)), G 113 109 true (.load none (t 112)), G 114 109 true (.indexSl 3 (t 113) (i 0)), G 115 109 true (.fieldAddr 0 (t 114)), G 116 109 true (.load none (t 115)), G 117 109 true (.bin .eql .none (t 116) (i 0)), L 118 (.pick (t 109) (t 117) (.const (.bool false))), M 119 118, G 120 119 true (.mov (t 6)), G 121 119 true (.indexSl 2 (t 120) (i 0)), G 122 119 true (.fieldAddr 1 (t 121)), G 123 119 true (.load none (t 122)), G 124 119 true (.indexSl 3 (t 123) (i 1)), G 125 119 true (.fieldAddr 1 (t 124)), G 126 119 true (.load none (t 125)), G 127 119 true (.bin .eql .none (t 126) (i 7)), L 128 (.pick (t 119) (t 127) (.const (.bool false))), M 129 128, G 130 129 true (.mov (t 6)), G 131 129 true (.indexSl 2 (t 130) (i 1)), G 132 129 true (.fieldAddr 0 (t 131)), G 133 129 true (.load none (t 132)), G 134 129 true (.bin .eql .none (t 133) (i 1)), L 135 (.pick (t 129) (t 134) (.const (.bool false))), M 136 135, G 137 136 true (.mov (t 6)), G 138 136 true (.indexSl 2 (t 137) (i 2)), G 139 136 true (.fieldAddr 0 (t 138)), G 140 136 true (.load none (t 139)), G 141 136 true (.bin .eql .none (t 140) (i 0)), L 142 (.pick (t 136) (t 141) (.const (.bool false))), M 143 142, G 144 143 true (.mov (t 6)), G 145 143 true (.indexSl 2 (t 144) (i 2)), G 146 143 true (.fieldAddr 1 (t 145)), G 147 143 true (.load none (t 146)), G 148 143 true (.indexSl 3 (t 147) (i 1)), G 149 143 true (.fieldAddr 1 (t 148)), G 150 143 true (.load none (t 149)), G 151 143 true (.bin .eql .none (t 150) (i 13)), L 152 (.pick (t 143) (t 151) (.const (.bool false))), M 153 152, G 154 153 true (.mov (t 9)), G 155 153 true (.bin .eql .none (t 154) (i 3)), L 156 (.pick (t 153) (t 155) (.const (.bool false))), J 0 156])
 (.ret)))))))))))⟩
def f72 : LFunc := ⟨12, [0, 5, 1, 4], [.tmp 4],
 .seq (r [K 4 (.mov (.const (.pointer none)))])
 (.seq (r [M 6 1, L 7 (.call (.func 42) [(t 6)]), J 5 7])
 (.seq (r [M 8 5, M 9 0, L 10 (.call (.func 131) [(t 8), (t 9)])])
 (.seq (r [M 11 5, J 4 11])
 (.ret))))⟩
def f73 : LFunc := ⟨8, [4, 0, 2], [.tmp 2],
 .seq (r [K 2 (.mov (.const (.slice none 0 0)))])
 (.seq (.seq (r [M 3 0, K 4 (.bin .eql .slice (t 3) (.const (.slice none 0 0)))])
 (.cond (t 4) (.seq (r [K 2 (.mov (.const (.slice none 0 0)))])
 (.ret)) (.skip)))
 (.seq (r [L 5 (.buildSlice 1 0 [.slice none 0 0] [] false), M 6 0, L 7 (.append 1 24 (t 5) (t 6)), J 2 7])
 (.ret)))⟩
def f74 : LFunc := ⟨8, [4, 0, 2], [.tmp 2],
 .seq (r [K 2 (.mov (.const (.slice none 0 0)))])
 (.seq (.seq (r [M 3 0, K 4 (.bin .eql .slice (t 3) (.const (.slice none 0 0)))])
 (.cond (t 4) (.seq (r [K 2 (.mov (.const (.slice none 0 0)))])
 (.ret)) (.skip)))
 (.seq (r [L 5 (.buildSlice 2 0 [.int .i64 0, .slice none 0 0] [] false), M 6 0, L 7 (.append 2 32 (t 5) (t 6)), J 2 7])
 (.ret)))⟩
def f75 : LFunc := ⟨8, [4, 0, 2], [.tmp 2],
 .seq (r [K 2 (.mov (.const (.slice none 0 0)))])
 (.seq (.seq (r [M 3 0, K 4 (.bin .eql .slice (t 3) (.const (.slice none 0 0)))])
 (.cond (t 4) (.seq (r [K 2 (.mov (.const (.slice none 0 0)))])
 (.ret)) (.skip)))
 (.seq (r [⟨(some 5), true, .buildSlice 1 0 [.string ⟨#[]⟩] [] false, none⟩, M 6 0, L 7 (.append 1 16 (t 5) (t 6)), J 2 7])
 (.ret)))⟩
def f76 : LFunc := ⟨18, [14, 3, 5, 6, 9, 7, 8, 0, 2], [.tmp 2],
 .seq (r [K 2 (.mov (i 0))])
 (.seq (r [K 3 (.mov (i 0))])
 (.seq (.seq (r [J 6 0, K 7 (.len false (t 6)), K 8 (.mov (i 0))])
 (.block 0 (.loop [] (.seq (r [K 9 (.bin .lss .none (t 8) (t 7))])
 (.seq (.cond (t 9) (.skip) (.exit 0))
 (.seq (.block 1 (.seq (r [L 10 (.indexSl 1 (t 6) (t 8)), L 11 (.load none (t 10)), J 5 11])
 (.seq (r [M 12 5, M 13 3, K 14 (.bin .neq .none (t 12) (t 13))])
 (.cond (t 14) (.seq (r [M 15 5, J 2 15])
 (.ret)) (.skip)))))
 (r [L 16 (.bin .add .none (t 8) (i 1)), J 8 16])))))))
 (.seq (r [M 17 3, J 2 17])
 (.ret))))⟩
def f77 : LFunc := ⟨20, [19, 16, 13, 12, 6, 11, 5, 1, 0, 4], [.tmp 4],
 .seq (r [K 4 (.mov (i 0))])
 (.seq (r [M 7 0, L 8 (.call (.func 132) [(t 7)]), J 5 8])
 (.seq (r [M 9 1, L 10 (.call (.func 132) [(t 9)]), J 6 10])
 (.seq (.seq (r [J 11 5])
 (.cond (t 11) (.seq (.seq (r [J 12 6])
 (.cond (t 12) (.seq (r [K 4 (.mov (i 0))])
 (.ret)) (.skip)))
 (.seq (r [K 4 (.mov (i (-1)))])
 (.ret))) (.skip)))
 (.seq (.seq (r [J 13 6])
 (.cond (t 13) (.seq (r [K 4 (.mov (i 1))])
 (.ret)) (.skip)))
 (.seq (.seq (r [M 14 0, M 15 1, K 16 (.bin .lss .none (t 14) (t 15))])
 (.cond (t 16) (.seq (r [K 4 (.mov (i (-1)))])
 (.ret)) (.skip)))
 (.seq (.seq (r [M 17 0, M 18 1, K 19 (.bin .gtr .none (t 17) (t 18))])
 (.cond (t 19) (.seq (r [K 4 (.mov (i 1))])
 (.ret)) (.skip)))
 (.seq (r [K 4 (.mov (i 0))])
 (.ret))))))))⟩
def f78 : LFunc := ⟨20, [19, 16, 13, 12, 6, 11, 5, 1, 0, 4], [.tmp 4],
 .seq (r [K 4 (.mov (i 0))])
 (.seq (r [M 7 0, L 8 (.call (.func 133) [(t 7)]), J 5 8])
 (.seq (r [M 9 1, L 10 (.call (.func 133) [(t 9)]), J 6 10])
 (.seq (.seq (r [J 11 5])
 (.cond (t 11) (.seq (.seq (r [J 12 6])
 (.cond (t 12) (.seq (r [K 4 (.mov (i 0))])
 (.ret)) (.skip)))
 (.seq (r [K 4 (.mov (i (-1)))])
 (.ret))) (.skip)))
 (.seq (.seq (r [J 13 6])
 (.cond (t 13) (.seq (r [K 4 (.mov (i 1))])
 (.ret)) (.skip)))
 (.seq (.seq (r [M 14 0, M 15 1, K 16 (.bin .lss .none (t 14) (t 15))])
 (.cond (t 16) (.seq (r [K 4 (.mov (i (-1)))])
 (.ret)) (.skip)))
 (.seq (.seq (r [M 17 0, M 18 1, K 19 (.bin .gtr .none (t 17) (t 18))])
 (.cond (t 19) (.seq (r [K 4 (.mov (i 1))])
 (.ret)) (.skip)))
 (.seq (r [K 4 (.mov (i 0))])
 (.ret))))))))⟩
def f79 : LFunc := ⟨20, [19, 16, 13, 12, 6, 11, 5, 1, 0, 4], [.tmp 4],
 .seq (r [K 4 (.mov (i 0))])
 (.seq (r [M 7 0, L 8 (.call (.func 134) [(t 7)]), J 5 8])
 (.seq (r [M 9 1, L 10 (.call (.func 134) [(t 9)]), J 6 10])
 (.seq (.seq (r [J 11 5])
 (.cond (t 11) (.seq (.seq (r [J 12 6])
 (.cond (t 12) (.seq (r [K 4 (.mov (i 0))])
 (.ret)) (.skip)))
 (.seq (r [K 4 (.mov (i (-1)))])
 (.ret))) (.skip)))
 (.seq (.seq (r [J 13 6])
 (.cond (t 13) (.seq (r [K 4 (.mov (i 1))])
 (.ret)) (.skip)))
 (.seq (.seq (r [M 14 0, M 15 1, K 16 (.bin .lss .none (t 14) (t 15))])
 (.cond (t 16) (.seq (r [K 4 (.mov (i (-1)))])
 (.ret)) (.skip)))
 (.seq (.seq (r [M 17 0, M 18 1, K 19 (.bin .gtr .none (t 17) (t 18))])
 (.cond (t 19) (.seq (r [K 4 (.mov (i 1))])
 (.ret)) (.skip)))
 (.seq (r [K 4 (.mov (i 0))])
 (.ret))))))))⟩
def f80 : LFunc := ⟨9, [1, 5, 0], [],
 .seq (r [M 4 0, K 5 (.bin .neq .func (t 4) (.const (.nilFunc)))])
 (.cond (t 5) (r [M 6 0, M 7 1, L 8 (.call (t 6) [(t 7)])]) (.skip))⟩
def f81 : LFunc := ⟨8, [2, 1, 0, 3], [.tmp 3],
 .seq (r [K 2 (.box 3 (t 0) false), K 3 (.mov (.const (.bool false)))])
 (.seq (r [L 4 (.load none (t 1)), L 5 (.load (some 3) (t 2)), ⟨(some 6), true, .buildSlice 3 1 [.int .i64 0, .int .i64 0, .string ⟨#[]⟩] [(0, 3, (t 5))] false, none⟩, L 7 (.append 3 32 (t 4) (t 6)), N (.store 1 (t 1) (t 7) false)])
 (.seq (r [K 3 (.mov (.const (.bool true)))])
 (.ret)))⟩
def f82 : LFunc := ⟨7, [2, 3, 1, 0], [],
 .seq (r [K 3 (.box 1 (t 0) false)])
 (r [L 4 (.load none (t 1)), L 5 (.makeFunc (.func 84) [] [(t 3), (t 2)]), L 6 (.call (.func 83) [(t 4), (t 5)])])⟩
def f83 : LFunc := ⟨9, [1, 5, 0], [],
 .seq (r [M 4 0, K 5 (.bin .neq .func (t 4) (.const (.nilFunc)))])
 (.cond (t 5) (r [M 6 0, M 7 1, L 8 (.call (t 6) [(t 7)])]) (.skip))⟩
def f84 : LFunc := ⟨10, [0, 2, 1, 4], [.tmp 4],
 .seq (r [K 4 (.mov (.const (.bool false)))])
 (.seq (.region [L 5 (.load none (t 1)), L 6 (.load none (t 2)), M 7 0, L 8 (.call (t 6) [(t 7)]), L 9 (.call (t 5) [(t 8)]), J 4 9] [(0, 3)])
 (.ret))⟩
def f85 : LFunc := ⟨4, [1, 0, 2], [.tmp 2],
 .seq (r [K 1 (.box 1 (t 0) false), K 2 (.mov (.const (.nilFunc)))])
 (.seq (r [L 3 (.makeFunc (.func 135) [] [(t 1)]), J 2 3])
 (.ret))⟩
def f86 : LFunc := ⟨49, [31, 1, 11, 2, 17, 10, 9, 8, 0, 6, 7], [.tmp 6, .tmp 7],
 .seq (r [K 6 (.mov (i 0)), K 7 (.mov (.const (.bool false)))])
 (.seq (r [M 12 0, L 13 (.len false (t 12)), J 8 13])
 (.seq (r [M 14 8, K 9 (.mov (i 0)), J 10 14])
 (.seq (.block 0 (.loop [] (.seq (.seq (r [M 15 9, M 16 10, K 17 (.bin .lss .none (t 15) (t 16))])
 (.cond (t 17) (.skip) (.exit 0)))
 (.block 1 (.seq (r [M 18 9, M 19 10, L 20 (.bin .add .none (t 18) (t 19)), L 21 (.conv (.int .u64) (t 20)), L 22 (.bin .shr .none (t 21) (.const (.int .u64 1))), L 23 (.conv (.int .i64) (t 22)), J 11 23])
 (.seq (r [M 24 2, M 25 0, M 26 11, L 27 (.indexSl 2 (t 25) (t 26)), L 28 (.load (some 2) (t 27)), M 29 1, L 30 (.call (t 24) [(t 28), (t 29)]), K 31 (.bin .lss .none (t 30) (i 0))])
 (.cond (t 31) (r [M 32 11, L 33 (.bin .add .none (t 32) (i 1)), J 9 33]) (r [M 34 11, J 10 34]))))))))
 (.seq (r [M 35 9, M 36 9, M 37 8, L 38 (.bin .lss .none (t 36) (t 37)), M 39 38, G 40 39 true (.mov (t 2)), G 41 39 true (.mov (t 0)), G 42 39 true (.mov (t 9)), G 43 39 true (.indexSl 2 (t 41) (t 42)), G 44 39 true (.load (some 2) (t 43)), G 45 39 true (.mov (t 1)), G 46 39 true (.call (t 40) [(t 44), (t 45)]), G 47 39 true (.bin .eql .none (t 46) (i 0)), L 48 (.pick (t 39) (t 47) (.const (.bool false))), J 6 35, J 7 48])
 (.ret)))))⟩
def f87 : LFunc := ⟨14, [1, 3, 2, 0, 5], [.tmp 5],
 .seq (r [K 3 (.box 2 (t 0) false), K 5 (.mov (i 0))])
 (.seq (r [L 6 (.load none (t 2)), L 7 (.nilCheck (t 6)), L 8 (.fieldAddr 0 (t 7)), L 9 (.load none (t 8)), L 10 (.fieldAddr 0 (t 3)), L 11 (.load none (t 10)), M 12 1, L 13 (.call (t 9) [(t 11), (t 12)]), J 5 13])
 (.ret))⟩
def f88 : LFunc := ⟨6, [0, 2], [.tmp 2],
 .seq (r [K 2 (.mov (.const (.pointer none)))])
 (.seq (r [M 3 0, L 4 (.build [.nilFunc, .slice none 0 0] [(0, 1, (t 3))]), L 5 (.box 2 (t 4) false), J 2 5])
 (.ret))⟩
def f91 : LFunc := ⟨9, [1, 0, 4], [.tmp 4],
 .seq (r [K 4 (.mov (.const (.bool false)))])
 (.seq (r [M 5 0, M 6 1, L 7 (.call (.func 137) [(t 5), (t 6)]), L 8 (.bin .geq .none (t 7) (i 0)), J 4 8])
 (.ret))⟩
def f92 : LFunc := ⟨14, [2, 1, 0, 3], [.tmp 3],
 .seq (r [K 2 (.box 2 (t 0) false), K 3 (.mov (.const (.bool false)))])
 (.seq (r [L 4 (.load none (t 1)), L 5 (.indexArrAddr 1 2 (t 2) (i 0)), L 6 (.load none (t 5)), L 7 (.bin .geq .none (t 4) (t 6)), M 8 7, G 9 8 true (.load none (t 1)), G 10 8 true (.indexArrAddr 1 2 (t 2) (i 1)), G 11 8 true (.load none (t 10)), G 12 8 true (.bin .lss .none (t 9) (t 11)), L 13 (.pick (t 8) (t 12) (.const (.bool false))), J 3 13])
 (.ret))⟩
def f93 : LFunc := ⟨27, [17, 6, 3, 8, 0, 1, 4, 5], [.cell 4 (some 4), .tmp 5],
 .seq (r [K 3 (.box 1 (t 1) false), ⟨(some 4), false, .alloc 4 [.string ⟨#[]⟩, .slice none 0 0, .string ⟨#[]⟩, .slice none 0 0], none⟩, K 5 (.mov (.const (.bool false)))])
 (.seq (.seq (r [M 7 0, K 8 (.bin .eql .ptr (t 7) (.const (.pointer none)))])
 (.cond (t 8) (.seq (r [⟨(some 9), true, .build [.string ⟨#[]⟩, .slice none 0 0, .string ⟨#[]⟩, .slice none 0 0] [], none⟩, N (.store 4 (t 4) (t 9) false), K 5 (.mov (.const (.bool false)))])
 (.ret)) (.skip)))
 (.seq (r [M 10 0, L 11 (.nilCheck (t 10)), L 12 (.fieldAddr 0 (t 11)), L 13 (.load none (t 12)), L 14 (.makeFunc (.func 139) [] [(t 3)]), L 15 (.call (.func 138) [(t 13), (t 14)]), J 6 15])
 (.seq (.seq (r [M 16 6, K 17 (.bin .lss .none (t 16) (i 0))])
 (.cond (t 17) (.seq (r [⟨(some 18), true, .build [.string ⟨#[]⟩, .slice none 0 0, .string ⟨#[]⟩, .slice none 0 0] [], none⟩, N (.store 4 (t 4) (t 18) false), K 5 (.mov (.const (.bool false)))])
 (.ret)) (.skip)))
 (.seq (r [M 19 0, L 20 (.nilCheck (t 19)), L 21 (.fieldAddr 0 (t 20)), L 22 (.load none (t 21)), M 23 6, L 24 (.indexSl 4 (t 22) (t 23)), L 25 (.load (some 4) (t 24)), L 26 (.call (.func 140) [(t 25)]), N (.store 4 (t 4) (t 26) false), K 5 (.mov (.const (.bool true)))])
 (.ret)))))⟩
def f94 : LFunc := ⟨9, [3, 2, 1, 0, 4], [.tmp 4],
 .seq (r [K 2 (.box 4 (t 0) false), K 3 (.box 1 (t 1) false), K 4 (.mov (i 0))])
 (.seq (r [L 5 (.fieldAddr 1 (t 2)), L 6 (.load none (t 5)), L 7 (.makeFunc (.func 142) [] [(t 3)]), L 8 (.call (.func 141) [(t 6), (t 7)]), J 4 8])
 (.ret))⟩
def f95 : LFunc := ⟨14, [3, 6, 0, 1, 4], [.tmp 4],
 .seq (r [K 3 (.box 1 (t 1) false), K 4 (.mov (i 0))])
 (.seq (.seq (r [M 5 0, K 6 (.bin .eql .ptr (t 5) (.const (.pointer none)))])
 (.cond (t 6) (.seq (r [K 4 (.mov (i (-1)))])
 (.ret)) (.skip)))
 (.seq (r [M 7 0, L 8 (.nilCheck (t 7)), L 9 (.fieldAddr 0 (t 8)), L 10 (.fieldAddr 1 (t 9)), L 11 (.load none (t 10)), L 12 (.makeFunc (.func 143) [] [(t 3)]), L 13 (.call (.func 141) [(t 11), (t 12)]), J 4 13])
 (.ret)))⟩
def f96 : LFunc := ⟨22, [13, 0, 1, 4, 5], [.cell 4 (some 3), .tmp 5],
 .seq (r [⟨(some 4), false, .alloc 3 [.int .i64 0, .int .i64 0, .string ⟨#[]⟩], none⟩, K 5 (.mov (.const (.bool false)))])
 (.seq (.seq (r [M 6 1, L 7 (.bin .lss .none (t 6) (i 0)), M 8 7, G 9 8 false (.mov (t 1)), G 10 8 false (.mov (t 0)), G 11 8 false (.call (.func 144) [(t 10)]), G 12 8 false (.bin .geq .none (t 9) (t 11)), K 13 (.pick (t 8) (.const (.bool true)) (t 12))])
 (.cond (t 13) (.seq (r [⟨(some 14), true, .build [.int .i64 0, .int .i64 0, .string ⟨#[]⟩] [], none⟩, N (.store 3 (t 4) (t 14) false), K 5 (.mov (.const (.bool false)))])
 (.ret)) (.skip)))
 (.seq (r [M 15 0, L 16 (.nilCheck (t 15)), L 17 (.fieldAddr 1 (t 16)), L 18 (.load none (t 17)), M 19 1, L 20 (.indexSl 3 (t 18) (t 19)), L 21 (.load (some 3) (t 20)), N (.store 3 (t 4) (t 21) false), K 5 (.mov (.const (.bool true)))])
 (.ret)))⟩
def f97 : LFunc := ⟨40, [4, 24, 22, 23, 3, 6, 0, 2], [.cell 2 (some 4)],
 .seq (r [⟨(some 2), false, .alloc 4 [.string ⟨#[]⟩, .slice none 0 0, .string ⟨#[]⟩, .slice none 0 0], none⟩])
 (.seq (.seq (r [M 5 0, K 6 (.bin .eql .ptr (t 5) (.const (.pointer none)))])
 (.cond (t 6) (.seq (r [⟨(some 7), true, .build [.string ⟨#[]⟩, .slice none 0 0, .string ⟨#[]⟩, .slice none 0 0] [], none⟩, N (.store 4 (t 2) (t 7) false)])
 (.ret)) (.skip)))
 (.seq (r [M 8 0, L 9 (.nilCheck (t 8)), L 10 (.fieldAddr 0 (t 9)), L 11 (.load (some 4) (t 10)), ⟨(some 3), false, .alloc 4 [.string ⟨#[]⟩, .slice none 0 0, .string ⟨#[]⟩, .slice none 0 0], none⟩, N (.store 4 (t 3) (t 11) false)])
 (.seq (r [L 12 (.fieldAddr 1 (t 3)), L 13 (.load none (t 12)), L 14 (.call (.func 145) [(t 13)]), L 15 (.fieldAddr 1 (t 3)), N (.store 1 (t 15) (t 14) false)])
 (.seq (r [L 16 (.fieldAddr 3 (t 3)), L 17 (.load none (t 16)), L 18 (.call (.func 146) [(t 17)]), L 19 (.fieldAddr 3 (t 3)), N (.store 1 (t 19) (t 18) false)])
 (.seq (.seq (r [L 20 (.fieldAddr 3 (t 3)), L 21 (.load none (t 20)), K 22 (.len false (t 21)), K 23 (.mov (i 0))])
 (.block 0 (.loop [] (.seq (r [K 24 (.bin .lss .none (t 23) (t 22))])
 (.seq (.cond (t 24) (.skip) (.exit 0))
 (.seq (.block 1 (.seq (r [M 25 23, J 4 25])
 (.region [L 26 (.fieldAddr 3 (t 3)), L 27 (.load none (t 26)), M 28 4, L 29 (.fieldAddr 3 (t 3)), L 30 (.load none (t 29)), M 31 4, L 32 (.indexSl 2 (t 30) (t 31)), L 33 (.fieldAddr 0 (t 32)), L 34 (.load none (t 33)), L 35 (.call (.func 147) [(t 34)]), L 36 (.indexSl 2 (t 27) (t 28)), L 37 (.fieldAddr 0 (t 36)), N (.store 1 (t 37) (t 35) false)] [(1, 9)])))
 (r [L 38 (.bin .add .none (t 23) (i 1)), J 23 38])))))))
 (.seq (r [L 39 (.load (some 4) (t 3)), N (.store 4 (t 2) (t 39) false)])
 (.ret)))))))⟩
def f98 : LFunc := ⟨9, [3, 2, 1, 0, 4], [.tmp 4],
 .seq (r [K 2 (.box 3 (t 0) false), K 3 (.box 3 (t 1) false), K 4 (.mov (.const (.bool false)))])
 (.seq (r [L 5 (.load (some 3) (t 2)), L 6 (.load (some 3) (t 3)), L 7 (.call (.func 35) [(t 5), (t 6)]), L 8 (.bin .eql .none (t 7) (i 0)), J 4 8])
 (.ret))⟩
def f100 : LFunc := ⟨51, [13, 9, 12, 11, 10, 7, 8, 6, 1, 0, 4, 5], [.tmp 4, .tmp 5],
 .seq (r [K 4 (.mov (.const (.int .u64 0))), K 5 (.mov (.const (.int .u64 0)))])
 (.seq (r [M 14 0, L 15 (.bin .and .none (t 14) (.const (.int .u64 4294967295))), J 6 15])
 (.seq (r [M 16 0, L 17 (.bin .shr .none (t 16) (.const (.int .u64 32))), J 7 17])
 (.seq (r [M 18 1, L 19 (.bin .and .none (t 18) (.const (.int .u64 4294967295))), J 8 19])
 (.seq (r [M 20 1, L 21 (.bin .shr .none (t 20) (.const (.int .u64 32))), J 9 21])
 (.seq (r [M 22 6, M 23 8, L 24 (.bin .mul .none (t 22) (t 23)), J 10 24])
 (.seq (r [M 25 7, M 26 8, L 27 (.bin .mul .none (t 25) (t 26)), M 28 10, L 29 (.bin .shr .none (t 28) (.const (.int .u64 32))), L 30 (.bin .add .none (t 27) (t 29)), J 11 30])
 (.seq (r [M 31 11, L 32 (.bin .and .none (t 31) (.const (.int .u64 4294967295))), J 12 32])
 (.seq (r [M 33 11, L 34 (.bin .shr .none (t 33) (.const (.int .u64 32))), J 13 34])
 (.seq (r [M 35 12, M 36 6, M 37 9, L 38 (.bin .mul .none (t 36) (t 37)), L 39 (.bin .add .none (t 35) (t 38)), J 12 39])
 (.seq (r [M 40 7, M 41 9, L 42 (.bin .mul .none (t 40) (t 41)), M 43 13, L 44 (.bin .add .none (t 42) (t 43)), M 45 12, L 46 (.bin .shr .none (t 45) (.const (.int .u64 32))), L 47 (.bin .add .none (t 44) (t 46)), J 4 47])
 (.seq (r [M 48 0, M 49 1, L 50 (.bin .mul .none (t 48) (t 49)), J 5 50])
 (.ret))))))))))))⟩
def f101 : LFunc := ⟨24, [3, 14, 2, 1, 0, 4, 5], [.tmp 4, .tmp 5],
 .seq (r [K 2 (.box 1 (t 0) false), K 3 (.box 3 (t 1) false), K 4 (.mov (i 0)), K 5 (.mov (.const (.bool false)))])
 (.seq (.seq (r [L 6 (.load none (t 2)), L 7 (.bin .eql .ptr (t 6) (.const (.pointer none))), M 8 7, G 9 8 false (.load none (t 2)), G 10 8 false (.nilCheck (t 9)), G 11 8 false (.fieldAddr 0 (t 10)), G 12 8 false (.load none (t 11)), G 13 8 false (.bin .eql .func (t 12) (.const (.nilFunc))), K 14 (.pick (t 8) (.const (.bool true)) (t 13))])
 (.cond (t 14) (.seq (r [K 4 (.mov (i 0)), K 5 (.mov (.const (.bool false)))])
 (.ret)) (.skip)))
 (.seq (r [L 15 (.load none (t 2)), L 16 (.nilCheck (t 15)), L 17 (.fieldAddr 1 (t 16)), L 18 (.load none (t 17)), L 19 (.load (some 3) (t 3)), L 20 (.makeFunc (.func 149) [] [(t 2)]), L 21 (.call (.func 148) [(t 18), (t 19), (t 20)]), L 22 (.extract (t 21) 0), L 23 (.extract (t 21) 1), J 4 22, J 5 23])
 (.ret)))⟩
def f102 : LFunc := ⟨95, [68, 9, 31, 22, 8, 16, 7, 2, 1, 0, 6], [.tmp 6],
 .seq (r [K 6 (.mov (.const (.slice none 0 0)))])
 (.seq (r [M 10 0, M 11 1, L 12 (.sliceSl 4 (t 10) (some (t 11)) none none)])
 (.seq (r [M 13 2, L 14 (.len false (t 13)), J 7 14])
 (.seq (.seq (r [M 15 7, K 16 (.bin .eql .none (t 15) (i 0))])
 (.cond (t 16) (.seq (r [M 17 0, J 6 17])
 (.ret)) (.skip)))
 (.seq (r [M 18 0, L 19 (.len false (t 18)), J 8 19])
 (.seq (.seq (r [M 20 1, M 21 8, K 22 (.bin .eql .none (t 20) (t 21))])
 (.cond (t 22) (.seq (r [M 23 0, M 24 2, L 25 (.append 4 40 (t 23) (t 24)), J 6 25])
 (.ret)) (.skip)))
 (.seq (.seq (r [M 26 8, M 27 7, L 28 (.bin .add .none (t 26) (t 27)), M 29 0, L 30 (.cap (t 29)), K 31 (.bin .gtr .none (t 28) (t 30))])
 (.cond (t 31) (.seq (r [M 32 0, M 33 1, L 34 (.sliceSl 4 (t 32) none (some (t 33)) none), M 35 8, M 36 7, L 37 (.bin .add .none (t 35) (t 36)), M 38 1, L 39 (.bin .sub .none (t 37) (t 38)), ⟨(some 40), true, .appendZ 4 40 [.int .i64 0, .int .i64 0, .string ⟨#[]⟩, .bool false] (t 34) (t 39), none⟩, J 9 40])
 (.seq (r [M 41 9, M 42 1, L 43 (.sliceSl 4 (t 41) (some (t 42)) none none), M 44 2, L 45 (.copy 4 (t 43) (t 44))])
 (.seq (r [M 46 9, M 47 1, M 48 7, L 49 (.bin .add .none (t 47) (t 48)), L 50 (.sliceSl 4 (t 46) (some (t 49)) none none), M 51 0, M 52 1, L 53 (.sliceSl 4 (t 51) (some (t 52)) none none), L 54 (.copy 4 (t 50) (t 53))])
 (.seq (r [M 55 9, J 6 55])
 (.ret))))) (.skip)))
 (.seq (r [M 56 0, M 57 8, M 58 7, L 59 (.bin .add .none (t 57) (t 58)), L 60 (.sliceSl 4 (t 56) none (some (t 59)) none), J 0 60])
 (.seq (.seq (r [M 61 2, M 62 0, M 63 1, M 64 7, L 65 (.bin .add .none (t 63) (t 64)), L 66 (.sliceSl 4 (t 62) (some (t 65)) none none), L 67 (.call (.func 150) [(t 61), (t 66)]), K 68 (.un .not (t 67))])
 (.cond (t 68) (.seq (r [M 69 0, M 70 1, M 71 7, L 72 (.bin .add .none (t 70) (t 71)), L 73 (.sliceSl 4 (t 69) (some (t 72)) none none), M 74 0, M 75 1, L 76 (.sliceSl 4 (t 74) (some (t 75)) none none), L 77 (.copy 4 (t 73) (t 76))])
 (.seq (r [M 78 0, M 79 1, L 80 (.sliceSl 4 (t 78) (some (t 79)) none none), M 81 2, L 82 (.copy 4 (t 80) (t 81))])
 (.seq (r [M 83 0, J 6 83])
 (.ret)))) (.skip)))
 (.seq (r [M 84 0, M 85 8, L 86 (.sliceSl 4 (t 84) (some (t 85)) none none), M 87 2, L 88 (.copy 4 (t 86) (t 87))])
 (.seq (r [M 89 0, M 90 1, L 91 (.sliceSl 4 (t 89) (some (t 90)) none none), M 92 7, L 93 (.call (.func 151) [(t 91), (t 92)])])
 (.seq (r [M 94 0, J 6 94])
 (.ret))))))))))))⟩
def f103 : LFunc := ⟨25, [3, 5, 4, 1, 0, 2], [.cell 2 (some 2)],
 .seq (r [K 1 (.box 2 (t 0) false), K 2 (.alloc 2 [.int .i64 0, .int .u64 0])])
 (.seq (r [L 8 (.fieldAddr 1 (t 1)), L 9 (.load none (t 8)), L 10 (.call (.func 152) [(.const (.int .u64 0)), (t 9), (.const (.int .u64 0))]), M 7 10, L 11 (.extract (t 7) 0), L 12 (.extract (t 7) 1), J 3 11, J 4 12])
 (.seq (r [L 14 (.fieldAddr 0 (t 1)), L 15 (.load none (t 14)), L 16 (.conv (.int .u64) (t 15)), M 17 4, L 18 (.call (.func 152) [(.const (.int .u64 0)), (t 16), (t 17)]), M 13 18, L 19 (.extract (t 13) 0), L 20 (.extract (t 13) 1), J 5 19, M 6 20])
 (.seq (r [M 21 5, L 22 (.conv (.int .i64) (t 21)), M 23 3, L 24 (.build [.int .i64 0, .int .u64 0] [(0, 1, (t 22)), (1, 1, (t 23))]), N (.store 2 (t 2) (t 24) false)])
 (.ret))))⟩
def f104 : LFunc := ⟨135, [120, 113, 14, 18, 17, 85, 78, 13, 16, 10, 15, 9, 11, 12, 8, 1, 27, 24, 0, 20, 2, 6, 7], [.tmp 6, .tmp 7],
 .seq (r [K 6 (.mov (.const (.int .u64 0))), K 7 (.mov (.const (.int .u64 0)))])
 (.seq (.seq (r [M 19 2, K 20 (.bin .eql .none (t 19) (.const (.int .u64 0)))])
 (.cond (t 20) (r [L 21 (.load none (.global 0)), N (.panic)]) (.skip)))
 (.seq (.seq (r [M 22 2, M 23 0, K 24 (.bin .leq .none (t 22) (t 23))])
 (.cond (t 24) (r [L 25 (.load none (.global 1)), N (.panic)]) (.skip)))
 (.seq (.seq (r [M 26 0, K 27 (.bin .eql .none (t 26) (.const (.int .u64 0)))])
 (.cond (t 27) (.seq (r [M 28 1, M 29 2, L 30 (.bin .quo .none (t 28) (t 29)), M 31 1, M 32 2, L 33 (.bin .rem .none (t 31) (t 32)), J 6 30, J 7 33])
 (.ret)) (.skip)))
 (.seq (r [M 34 2, L 35 (.call (.func 153) [(t 34)]), L 36 (.conv (.int .u64) (t 35)), J 8 36])
 (.seq (r [M 37 2, M 38 8, L 39 (.bin .shl .none (t 37) (t 38)), J 2 39])
 (.seq (r [M 40 2, L 41 (.bin .shr .none (t 40) (.const (.int .u64 32))), J 9 41])
 (.seq (r [M 42 2, L 43 (.bin .and .none (t 42) (.const (.int .u64 4294967295))), J 10 43])
 (.seq (r [M 44 0, M 45 8, L 46 (.bin .shl .none (t 44) (t 45)), M 47 1, M 48 8, L 49 (.bin .sub .none (.const (.int .u64 64)) (t 48)), L 50 (.bin .shr .none (t 47) (t 49)), L 51 (.bin .or .none (t 46) (t 50)), J 11 51])
 (.seq (r [M 52 1, M 53 8, L 54 (.bin .shl .none (t 52) (t 53)), J 12 54])
 (.seq (r [M 55 12, L 56 (.bin .shr .none (t 55) (.const (.int .u64 32))), J 13 56])
 (.seq (r [M 57 12, L 58 (.bin .and .none (t 57) (.const (.int .u64 4294967295))), J 14 58])
 (.seq (r [M 59 11, M 60 9, L 61 (.bin .quo .none (t 59) (t 60)), J 15 61])
 (.seq (r [M 62 11, M 63 15, M 64 9, L 65 (.bin .mul .none (t 63) (t 64)), L 66 (.bin .sub .none (t 62) (t 65)), J 16 66])
 (.seq (.block 0 (.loop [] (.seq (.seq (r [M 67 15, L 68 (.bin .geq .none (t 67) (.const (.int .u64 4294967296))), M 69 68, G 70 69 false (.mov (t 15)), G 71 69 false (.mov (t 10)), G 72 69 false (.bin .mul .none (t 70) (t 71)), G 73 69 false (.mov (t 16)), G 74 69 false (.bin .mul .none (.const (.int .u64 4294967296)) (t 73)), G 75 69 false (.mov (t 13)), G 76 69 false (.bin .add .none (t 74) (t 75)), G 77 69 false (.bin .gtr .none (t 72) (t 76)), K 78 (.pick (t 69) (.const (.bool true)) (t 77))])
 (.cond (t 78) (.skip) (.exit 0)))
 (.block 1 (.seq (r [M 79 15, L 80 (.bin .sub .none (t 79) (.const (.int .u64 1))), J 15 80])
 (.seq (r [M 81 16, M 82 9, L 83 (.bin .add .none (t 81) (t 82)), J 16 83])
 (.seq (r [M 84 16, K 85 (.bin .geq .none (t 84) (.const (.int .u64 4294967296)))])
 (.cond (t 85) (.exit 0) (.skip)))))))))
 (.seq (r [M 86 11, L 87 (.bin .mul .none (t 86) (.const (.int .u64 4294967296))), M 88 13, L 89 (.bin .add .none (t 87) (t 88)), M 90 15, M 91 2, L 92 (.bin .mul .none (t 90) (t 91)), L 93 (.bin .sub .none (t 89) (t 92)), J 17 93])
 (.seq (r [M 94 17, M 95 9, L 96 (.bin .quo .none (t 94) (t 95)), J 18 96])
 (.seq (r [M 97 17, M 98 18, M 99 9, L 100 (.bin .mul .none (t 98) (t 99)), L 101 (.bin .sub .none (t 97) (t 100)), J 16 101])
 (.seq (.block 2 (.loop [] (.seq (.seq (r [M 102 18, L 103 (.bin .geq .none (t 102) (.const (.int .u64 4294967296))), M 104 103, G 105 104 false (.mov (t 18)), G 106 104 false (.mov (t 10)), G 107 104 false (.bin .mul .none (t 105) (t 106)), G 108 104 false (.mov (t 16)), G 109 104 false (.bin .mul .none (.const (.int .u64 4294967296)) (t 108)), G 110 104 false (.mov (t 14)), G 111 104 false (.bin .add .none (t 109) (t 110)), G 112 104 false (.bin .gtr .none (t 107) (t 111)), K 113 (.pick (t 104) (.const (.bool true)) (t 112))])
 (.cond (t 113) (.skip) (.exit 2)))
 (.block 3 (.seq (r [M 114 18, L 115 (.bin .sub .none (t 114) (.const (.int .u64 1))), J 18 115])
 (.seq (r [M 116 16, M 117 9, L 118 (.bin .add .none (t 116) (t 117)), J 16 118])
 (.seq (r [M 119 16, K 120 (.bin .geq .none (t 119) (.const (.int .u64 4294967296)))])
 (.cond (t 120) (.exit 2) (.skip)))))))))
 (.seq (r [M 121 15, L 122 (.bin .mul .none (t 121) (.const (.int .u64 4294967296))), M 123 18, L 124 (.bin .add .none (t 122) (t 123)), M 125 17, L 126 (.bin .mul .none (t 125) (.const (.int .u64 4294967296))), M 127 14, L 128 (.bin .add .none (t 126) (t 127)), M 129 18, M 130 2, L 131 (.bin .mul .none (t 129) (t 130)), L 132 (.bin .sub .none (t 128) (t 131)), M 133 8, L 134 (.bin .shr .none (t 132) (t 133)), J 6 124, J 7 134])
 (.ret))))))))))))))))))))⟩
def f105 : LFunc := ⟨73, [57, 6, 48, 5, 40, 35, 10, 3, 7, 0, 1, 4], [.tmp 4],
 .seq (r [K 3 (.box 4 (t 1) false), K 4 (.mov (i 0))])
 (.seq (.block 0 (.seq (r [M 8 0, L 9 (.bin .eql .ptr (t 8) (.const (.pointer none))), J 7 9])
 (.cond (t 7) (.seq (r [K 4 (.mov (i 6))])
 (.ret)) (.seq (r [M 11 0, L 12 (.nilCheck (t 11)), L 13 (.fieldAddr 0 (t 12)), L 14 (.load none (t 13)), L 15 (.len false (t 14)), L 16 (.bin .geq .none (t 15) (i 8)), M 17 16, G 18 17 false (.fieldAddr 1 (t 3)), G 19 17 false (.load none (t 18)), G 20 17 false (.len false (t 19)), G 21 17 false (.bin .eql .none (t 20) (i 0)), L 22 (.pick (t 17) (.const (.bool true)) (t 21)), M 23 22, G 24 23 false (.fieldAddr 1 (t 3)), G 25 23 false (.load none (t 24)), G 26 23 false (.len false (t 25)), G 27 23 false (.bin .gtr .none (t 26) (i 6)), L 28 (.pick (t 23) (.const (.bool true)) (t 27)), M 29 28, G 30 29 false (.fieldAddr 3 (t 3)), G 31 29 false (.load none (t 30)), G 32 29 false (.len false (t 31)), G 33 29 false (.bin .gtr .none (t 32) (i 3)), L 34 (.pick (t 29) (.const (.bool true)) (t 33)), J 10 34])
 (.cond (t 10) (.seq (r [K 4 (.mov (i 5))])
 (.ret)) (.seq (r [M 36 0, L 37 (.load (some 4) (t 3)), L 38 (.call (.func 154) [(t 36), (t 37)]), L 39 (.un .not (t 38)), J 35 39])
 (.cond (t 35) (.seq (r [K 4 (.mov (i 3))])
 (.ret)) (.seq (r [L 41 (.fieldAddr 1 (t 3)), L 42 (.load none (t 41)), L 43 (.call (.func 155) [(t 42), (.func 156)]), J 40 43])
 (.cond (t 40) (.seq (r [K 4 (.mov (i 4))])
 (.ret)) (.skip))))))))))
 (.seq (.seq (r [M 44 0, L 45 (.load (some 4) (t 3)), L 46 (.call (.func 157) [(t 44), (t 45)]), J 5 46])
 (.seq (r [M 47 5, K 48 (.bin .neq .none (t 47) (i 0))])
 (.cond (t 48) (.seq (r [M 49 5, J 4 49])
 (.ret)) (.skip))))
 (.seq (r [L 50 (.load (some 4) (t 3)), L 51 (.call (.func 140) [(t 50)]), N (.store 4 (t 3) (t 51) false)])
 (.seq (.seq (r [L 52 (.load (some 4) (t 3)), L 53 (.fieldAddr 2 (t 3)), L 54 (.load none (t 53)), L 55 (.call (.func 94) [(t 52), (t 54)]), J 6 55])
 (.seq (r [M 56 6, K 57 (.bin .geq .none (t 56) (i 0))])
 (.cond (t 57) (r [L 58 (.fieldAddr 1 (t 3)), L 59 (.load none (t 58)), M 60 6, L 61 (.indexSl 4 (t 59) (t 60)), L 62 (.fieldAddr 2 (t 61)), N (.store 1 (t 62) (.const (.bool true)) false)]) (.skip))))
 (.seq (r [M 63 0, M 64 0, L 65 (.nilCheck (t 64)), L 66 (.fieldAddr 0 (t 65)), L 67 (.load none (t 66)), L 68 (.load (some 4) (t 3)), ⟨(some 69), true, .buildSlice 4 1 [.string ⟨#[]⟩, .slice none 0 0, .string ⟨#[]⟩, .slice none 0 0] [(0, 4, (t 68))] false, none⟩, L 70 (.append 4 80 (t 67) (t 69)), L 71 (.nilCheck (t 63)), L 72 (.fieldAddr 0 (t 71)), N (.store 1 (t 72) (t 70) false)])
 (.seq (r [K 4 (.mov (i 0))])
 (.ret)))))))⟩
def f106 : LFunc := ⟨30, [5, 3, 10, 13, 11, 12, 1, 0, 2], [.tmp 2],
 .seq (r [K 1 (.box 4 (t 0) false), K 2 (.mov (.const (.pointer none)))])
 (.seq (r [L 6 (.load (some 4) (t 1)), ⟨(some 7), true, .build [.string ⟨#[]⟩, .slice none 0 0, .string ⟨#[]⟩, .slice none 0 0, .slice none 0 0, .slice none 0 0, .int .i64 0] [(0, 4, (t 6))], none⟩, L 8 (.box 7 (t 7) false), J 3 8])
 (.seq (.seq (r [L 9 (.fieldAddr 1 (t 1)), K 10 (.load none (t 9)), K 11 (.len false (t 10)), K 12 (.mov (i 0))])
 (.block 0 (.loop [] (.seq (r [K 13 (.bin .lss .none (t 12) (t 11))])
 (.seq (.cond (t 13) (.skip) (.exit 0))
 (.seq (.block 1 (.seq (r [L 14 (.indexSl 4 (t 10) (t 12)), L 15 (.load (some 4) (t 14)), ⟨(some 5), false, .alloc 4 [.string ⟨#[]⟩, .int .i64 0, .bool false, .string ⟨#[]⟩], none⟩, N (.store 4 (t 5) (t 15) false)])
 (.region [M 16 3, M 17 3, L 18 (.nilCheck (t 17)), L 19 (.fieldAddr 4 (t 18)), L 20 (.load none (t 19)), L 21 (.fieldAddr 1 (t 5)), L 22 (.load none (t 21)), L 23 (.call (.func 158) [(t 22)]), L 24 (.buildSlice 1 1 [.pointer none] [(0, 1, (t 23))] false), L 25 (.append 1 8 (t 20) (t 24)), L 26 (.nilCheck (t 16)), L 27 (.fieldAddr 4 (t 26)), N (.store 1 (t 27) (t 25) false)] [(4, 7)])))
 (r [L 28 (.bin .add .none (t 12) (i 1)), J 12 28])))))))
 (.seq (r [M 29 3, J 2 29])
 (.ret))))⟩
def f107 : LFunc := ⟨111, [110, 85, 79, 7, 69, 60, 6, 55, 37, 5, 32, 28, 3, 0, 1, 4], [.tmp 4],
 .seq (r [K 3 (.box 4 (t 1) false), K 4 (.mov (i 0))])
 (.seq (.seq (r [M 8 0, L 9 (.len false (t 8)), L 10 (.bin .geq .none (t 9) (i 8)), M 11 10, G 12 11 false (.fieldAddr 1 (t 3)), G 13 11 false (.load none (t 12)), G 14 11 false (.len false (t 13)), G 15 11 false (.bin .lss .none (t 14) (i 1)), L 16 (.pick (t 11) (.const (.bool true)) (t 15)), M 17 16, G 18 17 false (.fieldAddr 1 (t 3)), G 19 17 false (.load none (t 18)), G 20 17 false (.len false (t 19)), G 21 17 false (.bin .gtr .none (t 20) (i 6)), L 22 (.pick (t 17) (.const (.bool true)) (t 21)), M 23 22, G 24 23 false (.fieldAddr 3 (t 3)), G 25 23 false (.load none (t 24)), G 26 23 false (.len false (t 25)), G 27 23 false (.bin .gtr .none (t 26) (i 3)), K 28 (.pick (t 23) (.const (.bool true)) (t 27))])
 (.cond (t 28) (.seq (r [K 4 (.mov (i 5))])
 (.ret)) (.skip)))
 (.seq (.seq (r [M 29 0, L 30 (.load (some 4) (t 3)), L 31 (.call (.func 159) [(t 29), (t 30)]), K 32 (.un .not (t 31))])
 (.cond (t 32) (.seq (r [K 4 (.mov (i 3))])
 (.ret)) (.skip)))
 (.seq (.seq (r [K 5 (.mov (i 0))])
 (.block 0 (.loop [] (.seq (.seq (r [M 33 5, L 34 (.fieldAddr 1 (t 3)), L 35 (.load none (t 34)), L 36 (.len false (t 35)), K 37 (.bin .lss .none (t 33) (t 36))])
 (.cond (t 37) (.skip) (.exit 0)))
 (.seq (.block 1 (.seq (r [L 40 (.fieldAddr 1 (t 3)), L 41 (.load none (t 40)), M 42 5, L 43 (.indexSl 4 (t 41) (t 42)), L 44 (.fieldAddr 1 (t 43)), L 45 (.load none (t 44)), L 46 (.bin .neq .none (t 45) (i 1)), M 47 46, G 48 47 true (.fieldAddr 1 (t 3)), G 49 47 true (.load none (t 48)), G 50 47 true (.mov (t 5)), G 51 47 true (.indexSl 4 (t 49) (t 50)), G 52 47 true (.fieldAddr 1 (t 51)), G 53 47 true (.load none (t 52)), G 54 47 true (.bin .neq .none (t 53) (i 2)), K 55 (.pick (t 47) (t 54) (.const (.bool false)))])
 (.cond (t 55) (.seq (r [K 4 (.mov (i 4))])
 (.ret)) (.skip))))
 (r [M 38 5, L 39 (.bin .add .none (t 38) (i 1)), J 5 39]))))))
 (.seq (.seq (r [K 6 (.mov (i 0))])
 (.block 2 (.loop [] (.seq (.seq (r [M 56 6, L 57 (.fieldAddr 1 (t 3)), L 58 (.load none (t 57)), L 59 (.len false (t 58)), K 60 (.bin .lss .none (t 56) (t 59))])
 (.cond (t 60) (.skip) (.exit 2)))
 (.seq (.block 3 (.seq (.seq (r [L 63 (.fieldAddr 1 (t 3)), L 64 (.load none (t 63)), M 65 6, L 66 (.indexSl 4 (t 64) (t 65)), L 67 (.fieldAddr 3 (t 66)), L 68 (.load none (t 67)), ⟨(some 69), false, .bin .eql .none (t 68) (.const (.string ⟨#[]⟩)), none⟩])
 (.cond (t 69) (.exit 3) (.skip)))
 (.seq (r [M 70 0, L 71 (.fieldAddr 1 (t 3)), L 72 (.load none (t 71)), M 73 6, L 74 (.indexSl 4 (t 72) (t 73)), L 75 (.fieldAddr 3 (t 74)), L 76 (.load none (t 75)), L 77 (.call (.func 64) [(t 70), (t 76)]), J 7 77])
 (.seq (.seq (r [M 78 7, K 79 (.bin .lss .none (t 78) (i 0))])
 (.cond (t 79) (.seq (r [K 4 (.mov (i 3))])
 (.ret)) (.skip)))
 (.seq (.seq (r [M 80 0, M 81 7, L 82 (.indexSl 4 (t 80) (t 81)), L 83 (.fieldAddr 2 (t 82)), L 84 (.load none (t 83)), ⟨(some 85), false, .bin .eql .none (t 84) (.const (.string ⟨#[]⟩)), none⟩])
 (.cond (t 85) (.seq (r [K 4 (.mov (i 9))])
 (.ret)) (.skip)))
 (.seq (.region [M 86 0, M 87 7, L 88 (.indexSl 4 (t 86) (t 87)), L 89 (.fieldAddr 1 (t 88)), L 90 (.load none (t 89)), M 91 0, M 92 7, L 93 (.indexSl 4 (t 91) (t 92)), L 94 (.load (some 4) (t 93)), M 95 0, M 96 7, L 97 (.indexSl 4 (t 95) (t 96)), L 98 (.fieldAddr 2 (t 97)), L 99 (.load none (t 98)), L 100 (.call (.func 124) [(t 94), (t 99)]), L 101 (.indexSl 4 (t 90) (t 100)), L 102 (.fieldAddr 1 (t 101)), L 103 (.load none (t 102)), L 104 (.fieldAddr 1 (t 3)), L 105 (.load none (t 104)), M 106 6, L 107 (.indexSl 4 (t 105) (t 106)), L 108 (.fieldAddr 1 (t 107)), L 109 (.load none (t 108)), K 110 (.bin .neq .none (t 103) (t 109))] [(4, 14), (19, 14), (23, 14)])
 (.cond (t 110) (.seq (r [K 4 (.mov (i 4))])
 (.ret)) (.skip))))))))
 (r [M 61 6, L 62 (.bin .add .none (t 61) (i 1)), J 6 62]))))))
 (.seq (r [K 4 (.mov (i 0))])
 (.ret))))))⟩
def f108 : LFunc := ⟨30, [23, 12, 3, 1, 0, 2], [.cell 2 (some 4)],
 .seq (r [K 1 (.box 4 (t 0) false), ⟨(some 2), false, .alloc 4 [.string ⟨#[]⟩, .slice none 0 0, .string ⟨#[]⟩, .slice none 0 0], none⟩])
 (.seq (r [L 4 (.fieldAddr 1 (t 1)), L 5 (.load none (t 4)), L 6 (.append 4 48 (.const (.slice none 0 0)) (t 5)), L 7 (.fieldAddr 1 (t 1)), N (.store 1 (t 7) (t 6) false)])
 (.seq (.seq (r [K 3 (.mov (i 0))])
 (.block 0 (.loop [] (.seq (.seq (r [M 8 3, L 9 (.fieldAddr 1 (t 1)), L 10 (.load none (t 9)), L 11 (.len false (t 10)), K 12 (.bin .lss .none (t 8) (t 11))])
 (.cond (t 12) (.skip) (.exit 0)))
 (.seq (.block 1 (.seq (r [L 15 (.fieldAddr 1 (t 1)), L 16 (.load none (t 15)), M 17 3, L 18 (.indexSl 4 (t 16) (t 17)), L 19 (.fieldAddr 0 (t 18)), L 20 (.load none (t 19)), L 21 (.fieldAddr 2 (t 1)), L 22 (.load none (t 21)), K 23 (.bin .eql .none (t 20) (t 22))])
 (.cond (t 23) (r [L 24 (.fieldAddr 1 (t 1)), L 25 (.load none (t 24)), M 26 3, L 27 (.indexSl 4 (t 25) (t 26)), L 28 (.fieldAddr 2 (t 27)), N (.store 1 (t 28) (.const (.bool true)) false)]) (.skip))))
 (r [M 13 3, L 14 (.bin .add .none (t 13) (i 1)), J 3 14]))))))
 (.seq (r [L 29 (.load (some 4) (t 1)), N (.store 4 (t 2) (t 29) false)])
 (.ret))))⟩
def f109 : LFunc := ⟨20, [16, 5, 4, 6, 9, 7, 8, 0, 2], [.cell 2 (some 5)],
 .seq (r [⟨(some 2), false, .alloc 5 [.int .i64 0, .int .i64 0, .string ⟨#[]⟩, .int .i64 0, .string ⟨#[]⟩], none⟩])
 (.seq (.seq (r [J 6 0, K 7 (.len false (t 6)), K 8 (.mov (i 0))])
 (.block 0 (.loop [] (.seq (r [K 9 (.bin .lss .none (t 8) (t 7))])
 (.seq (.cond (t 9) (.skip) (.exit 0))
 (.seq (.block 1 (.seq (r [L 10 (.indexSl 1 (t 6) (t 8)), L 11 (.load none (t 10)), J 4 11])
 (.seq (r [M 12 4, L 13 (.call (t 12) []), ⟨(some 5), false, .alloc 5 [.int .i64 0, .int .i64 0, .string ⟨#[]⟩, .int .i64 0, .string ⟨#[]⟩], none⟩, N (.store 5 (t 5) (t 13) false)])
 (.seq (r [L 14 (.fieldAddr 0 (t 5)), L 15 (.load none (t 14)), K 16 (.bin .neq .none (t 15) (i 0))])
 (.cond (t 16) (.seq (r [L 17 (.load (some 5) (t 5)), N (.store 5 (t 2) (t 17) false)])
 (.ret)) (.skip))))))
 (r [L 18 (.bin .add .none (t 8) (i 1)), J 8 18])))))))
 (.seq (r [⟨(some 19), true, .build [.int .i64 0, .int .i64 0, .string ⟨#[]⟩, .int .i64 0, .string ⟨#[]⟩] [], none⟩, N (.store 5 (t 2) (t 19) false)])
 (.ret)))⟩
def f110 : LFunc := ⟨14, [1, 0, 2], [.cell 2 (some 5)],
 .seq (r [⟨(some 2), false, .alloc 5 [.int .i64 0, .int .i64 0, .string ⟨#[]⟩, .int .i64 0, .string ⟨#[]⟩], none⟩])
 (.seq (r [L 3 (.load none (t 0)), L 4 (.fieldAddr 1 (t 1)), L 5 (.load none (t 4)), L 6 (.fieldAddr 3 (t 1)), L 7 (.load none (t 6)), L 8 (.len false (t 7)), L 9 (.fieldAddr 2 (t 1)), L 10 (.load none (t 9)), L 11 (.len false (t 10)), L 12 (.buildSlice 1 1 [.int .i64 0] [(0, 1, (t 11))] false), L 13 (.call (.func 111) [(t 3), (t 5), (t 8), (t 12)]), N (.store 5 (t 2) (t 13) false)])
 (.ret))⟩
def f111 : LFunc := ⟨34, [30, 3, 2, 18, 10, 1, 0, 8], [.cell 8 (some 5)],
 .seq (r [⟨(some 8), false, .alloc 5 [.int .i64 0, .int .i64 0, .string ⟨#[]⟩, .int .i64 0, .string ⟨#[]⟩], none⟩])
 (.seq (.seq (r [M 12 0, M 13 1, L 14 (.call (.func 93) [(t 12), (t 13)]), M 11 14, L 15 (.extract (t 11) 0), L 16 (.extract (t 11) 1), ⟨(some 9), true, .alloc 4 [.string ⟨#[]⟩, .slice none 0 0, .string ⟨#[]⟩, .slice none 0 0], none⟩, N (.store 4 (t 9) (t 15) false), J 10 16])
 (.seq (r [M 17 10, K 18 (.un .not (t 17))])
 (.cond (t 18) (.seq (r [M 19 1, ⟨(some 20), true, .build [.int .i64 0, .int .i64 0, .string ⟨#[]⟩, .int .i64 0, .string ⟨#[]⟩] [(0, 1, (i 3)), (2, 1, (t 19))], none⟩, N (.store 5 (t 8) (t 20) false)])
 (.ret)) (.skip))))
 (.seq (.seq (r [M 21 2, L 22 (.bin .eql .none (t 21) (i 0)), M 23 22, G 24 23 false (.mov (t 3)), G 25 23 false (.mov (t 2)), G 26 23 false (.buildSlice 1 1 [.int .i64 0] [(0, 1, (t 25))] false), G 27 23 false (.append 1 8 (t 24) (t 26)), G 28 23 false (.call (.func 160) [(t 27)]), G 29 23 false (.bin .gtr .none (t 28) (i 4)), K 30 (.pick (t 23) (.const (.bool true)) (t 29))])
 (.cond (t 30) (.seq (r [M 31 1, ⟨(some 32), true, .build [.int .i64 0, .int .i64 0, .string ⟨#[]⟩, .int .i64 0, .string ⟨#[]⟩] [(0, 1, (i 5)), (2, 1, (t 31))], none⟩, N (.store 5 (t 8) (t 32) false)])
 (.ret)) (.skip)))
 (.seq (r [⟨(some 33), true, .build [.int .i64 0, .int .i64 0, .string ⟨#[]⟩, .int .i64 0, .string ⟨#[]⟩] [], none⟩, N (.store 5 (t 8) (t 33) false)])
 (.ret))))⟩
def f112 : LFunc := ⟨9, [1, 0, 2], [.cell 2 (some 5)],
 .seq (r [⟨(some 2), false, .alloc 5 [.int .i64 0, .int .i64 0, .string ⟨#[]⟩, .int .i64 0, .string ⟨#[]⟩], none⟩])
 (.seq (r [L 3 (.load none (t 0)), L 4 (.fieldAddr 1 (t 1)), L 5 (.load none (t 4)), L 6 (.fieldAddr 2 (t 1)), L 7 (.load none (t 6)), L 8 (.call (.func 113) [(t 3), (t 5), (t 7)]), N (.store 5 (t 2) (t 8) false)])
 (.ret))⟩
def f113 : LFunc := ⟨11, [3, 5, 4, 2, 1, 0, 6], [.cell 6 (some 5)],
 .seq (r [K 3 (.box 1 (t 0) false), K 4 (.box 1 (t 1) false), K 5 (.box 1 (t 2) false), ⟨(some 6), false, .alloc 5 [.int .i64 0, .int .i64 0, .string ⟨#[]⟩, .int .i64 0, .string ⟨#[]⟩], none⟩])
 (.seq (r [L 7 (.load none (t 4)), L 8 (.load none (t 5)), L 9 (.makeFunc (.func 162) [] [(t 3), (t 4), (t 5)]), L 10 (.call (.func 161) [(t 7), (t 8), (t 9)]), N (.store 5 (t 6) (t 10) false)])
 (.ret))⟩
def f114 : LFunc := ⟨9, [1, 0, 2], [.cell 2 (some 5)],
 .seq (r [⟨(some 2), false, .alloc 5 [.int .i64 0, .int .i64 0, .string ⟨#[]⟩, .int .i64 0, .string ⟨#[]⟩], none⟩])
 (.seq (r [L 3 (.load none (t 0)), L 4 (.fieldAddr 1 (t 1)), L 5 (.load none (t 4)), L 6 (.fieldAddr 3 (t 1)), L 7 (.load none (t 6)), L 8 (.call (.func 115) [(t 3), (t 5), (t 7)]), N (.store 5 (t 2) (t 8) false)])
 (.ret))⟩
def f115 : LFunc := ⟨11, [3, 2, 4, 1, 0, 6], [.cell 6 (some 5)],
 .seq (r [K 3 (.box 1 (t 0) false), K 4 (.box 1 (t 1) false), ⟨(some 6), false, .alloc 5 [.int .i64 0, .int .i64 0, .string ⟨#[]⟩, .int .i64 0, .string ⟨#[]⟩], none⟩])
 (.seq (r [L 7 (.load none (t 4)), M 8 2, L 9 (.makeFunc (.func 167) [] [(t 3), (t 4)]), L 10 (.call (.func 166) [(t 7), (t 8), (t 9)]), N (.store 5 (t 6) (t 10) false)])
 (.ret))⟩
def f116 : LFunc := ⟨28, [1, 0, 5, 2, 6], [.tmp 6],
 .seq (r [K 5 (.box 3 (t 2) false), K 6 (.mov (.const (.bool false)))])
 (.seq (r [L 7 (.fieldAddr 0 (t 5)), L 8 (.load none (t 7)), L 9 (.bin .eql .none (t 8) (i 0)), M 10 9, G 11 10 false (.fieldAddr 0 (t 5)), G 12 10 false (.load none (t 11)), G 13 10 false (.mov (t 0)), G 14 10 false (.nilCheck (t 13)), G 15 10 false (.fieldAddr 0 (t 14)), G 16 10 false (.fieldAddr 1 (t 15)), G 17 10 false (.load none (t 16)), G 18 10 false (.mov (t 1)), G 19 10 false (.indexSl 4 (t 17) (t 18)), G 20 10 false (.fieldAddr 1 (t 19)), G 21 10 false (.load none (t 20)), G 22 10 false (.bin .eql .none (t 12) (t 21)), L 23 (.pick (t 10) (.const (.bool true)) (t 22)), M 24 23, G 25 24 true (.load (some 3) (t 5)), G 26 24 true (.call (.func 169) [(t 25)]), L 27 (.pick (t 24) (t 26) (.const (.bool false))), J 6 27])
 (.ret))⟩
def f117 : LFunc := ⟨22, [8, 3, 0, 1, 4], [.tmp 4],
 .seq (r [K 3 (.box 3 (t 1) false), K 4 (.mov (.const (.bool false)))])
 (.seq (.seq (r [M 5 0, L 6 (.load (some 3) (t 3)), L 7 (.call (.func 170) [(t 5), (t 6)]), K 8 (.un .not (t 7))])
 (.cond (t 8) (.seq (r [K 4 (.mov (.const (.bool false)))])
 (.ret)) (.skip)))
 (.seq (r [M 9 0, M 10 0, L 11 (.nilCheck (t 10)), L 12 (.fieldAddr 1 (t 11)), L 13 (.load none (t 12)), L 14 (.load (some 3) (t 3)), ⟨(some 15), true, .buildSlice 3 1 [.int .i64 0, .int .i64 0, .string ⟨#[]⟩] [(0, 3, (t 14))] false, none⟩, L 16 (.append 3 32 (t 13) (t 15)), L 17 (.nilCheck (t 9)), L 18 (.fieldAddr 1 (t 17)), N (.store 1 (t 18) (t 16) false)])
 (.seq (r [M 19 0, L 20 (.load (some 3) (t 3)), L 21 (.call (.func 171) [(t 19), (t 20)])])
 (.seq (r [K 4 (.mov (.const (.bool true)))])
 (.ret)))))⟩
def f118 : LFunc := ⟨30, [6, 8, 17, 20, 18, 19, 5, 3, 2, 1, 0, 4], [.cell 4 (some 1)],
 .seq (r [K 2 (.box 1 (t 0) false), K 3 (.box 1 (t 1) false), K 4 (.alloc 1 [.slice none 0 0])])
 (.seq (r [L 9 (.fieldAddr 0 (t 2)), L 10 (.load none (t 9)), L 11 (.fieldAddr 0 (t 3)), L 12 (.load none (t 11)), L 13 (.buildSlice 1 2 [.slice none 0 0] [(0, 1, (t 10)), (1, 1, (t 12))] false), L 14 (.call (.func 172) [(t 13)]), J 5 14])
 (.seq (r [M 15 5, L 16 (.call (.func 173) [(t 15), (.func 174)])])
 (.seq (r [K 6 (.alloc 1 [.slice none 0 0])])
 (.seq (.seq (r [J 17 5, K 18 (.len false (t 17)), K 19 (.mov (i 0))])
 (.block 0 (.loop [] (.seq (r [K 20 (.bin .lss .none (t 19) (t 18))])
 (.seq (.cond (t 20) (.skip) (.exit 0))
 (.seq (.block 1 (.seq (r [L 21 (.indexSl 2 (t 17) (t 19)), L 22 (.load (some 2) (t 21)), K 8 (.alloc 2 [.int .i64 0, .int .i64 0]), N (.store 2 (t 8) (t 22) false)])
 (r [L 23 (.indexArrAddr 1 2 (t 8) (i 0)), L 24 (.load none (t 23)), L 25 (.indexArrAddr 1 2 (t 8) (i 1)), L 26 (.load none (t 25)), L 27 (.call (.func 175) [(t 6), (t 24), (t 26)])])))
 (r [L 28 (.bin .add .none (t 19) (i 1)), J 19 28])))))))
 (.seq (r [L 29 (.load (some 1) (t 6)), N (.store 1 (t 4) (t 29) false)])
 (.ret))))))⟩
def f119 : LFunc := ⟨28, [3, 21, 5, 10, 13, 11, 12, 0, 2], [.cell 2 (some 1)],
 .seq (r [K 2 (.alloc 1 [.slice none 0 0])])
 (.seq (r [M 6 0, L 7 (.call (.func 176) [(t 6)]), J 0 7])
 (.seq (r [M 8 0, L 9 (.call (.func 177) [(t 8)])])
 (.seq (r [K 3 (.alloc 1 [.slice none 0 0])])
 (.seq (.seq (r [J 10 0, K 11 (.len false (t 10)), K 12 (.mov (i 0))])
 (.block 0 (.loop [] (.seq (r [K 13 (.bin .lss .none (t 12) (t 11))])
 (.seq (.cond (t 13) (.skip) (.exit 0))
 (.seq (.block 1 (.seq (r [L 14 (.indexSl 1 (t 10) (t 12)), L 15 (.load none (t 14)), J 5 15])
 (.seq (r [M 16 5, L 17 (.bin .geq .none (t 16) (i 0)), M 18 17, G 19 18 true (.mov (t 5)), G 20 18 true (.bin .lss .none (t 19) (i 65536)), K 21 (.pick (t 18) (t 20) (.const (.bool false)))])
 (.cond (t 21) (r [M 22 5, M 23 5, L 24 (.bin .add .none (t 23) (i 1)), L 25 (.call (.func 175) [(t 3), (t 22), (t 24)])]) (.skip)))))
 (r [L 26 (.bin .add .none (t 12) (i 1)), J 12 26])))))))
 (.seq (r [L 27 (.load (some 1) (t 3)), N (.store 1 (t 2) (t 27) false)])
 (.ret))))))⟩
def f120 : LFunc := ⟨19, [3, 2, 1, 0, 4], [.tmp 4],
 .seq (r [K 2 (.box 3 (t 0) false), K 3 (.box 4 (t 1) false), K 4 (.mov (.const (.bool false)))])
 (.seq (r [L 5 (.load (some 3) (t 2)), L 6 (.call (.func 178) [(t 5)]), M 7 6, G 8 7 true (.fieldAddr 0 (t 2)), G 9 7 true (.load none (t 8)), G 10 7 true (.bin .eql .none (t 9) (i 0)), G 11 7 true (.mov (t 10)), G 12 11 false (.fieldAddr 0 (t 2)), G 13 11 false (.load none (t 12)), G 14 11 false (.fieldAddr 1 (t 3)), G 15 11 false (.load none (t 14)), G 16 11 false (.bin .eql .none (t 13) (t 15)), G 17 7 true (.pick (t 11) (.const (.bool true)) (t 16)), L 18 (.pick (t 7) (t 17) (.const (.bool false))), J 4 18])
 (.ret))⟩
def f121 : LFunc := ⟨9, [3, 2, 1, 0, 4], [.cell 4 (some 1)],
 .seq (r [K 2 (.box 1 (t 0) false), K 3 (.box 1 (t 1) false), K 4 (.alloc 1 [.slice none 0 0])])
 (.seq (.region [L 5 (.load (some 1) (t 2)), L 6 (.load (some 1) (t 3)), L 7 (.call (.func 180) [(t 6), (i 65536)]), L 8 (.call (.func 179) [(t 5), (t 7)]), N (.store 1 (t 4) (t 8) false)] [(0, 2)])
 (.ret))⟩
def f122 : LFunc := ⟨61, [43, 34, 33, 7, 24, 1, 5, 0, 2, 6], [.tmp 6],
 .seq (r [K 5 (.box 3 (t 2) false), K 6 (.mov (.const (.bool false)))])
 (.seq (.seq (r [M 8 0, L 9 (.load (some 3) (t 5)), L 10 (.call (.func 170) [(t 8), (t 9)]), L 11 (.un .not (t 10)), M 12 11, G 13 12 false (.mov (t 1)), G 14 12 false (.bin .lss .none (t 13) (i 0)), L 15 (.pick (t 12) (.const (.bool true)) (t 14)), M 16 15, G 17 16 false (.mov (t 1)), G 18 16 false (.mov (t 0)), G 19 16 false (.nilCheck (t 18)), G 20 16 false (.fieldAddr 1 (t 19)), G 21 16 false (.load none (t 20)), G 22 16 false (.len false (t 21)), G 23 16 false (.bin .geq .none (t 17) (t 22)), K 24 (.pick (t 16) (.const (.bool true)) (t 23))])
 (.cond (t 24) (.seq (r [K 6 (.mov (.const (.bool false)))])
 (.ret)) (.skip)))
 (.seq (.seq (r [M 25 0, L 26 (.nilCheck (t 25)), L 27 (.fieldAddr 1 (t 26)), L 28 (.load none (t 27)), M 29 1, L 30 (.indexSl 3 (t 28) (t 29)), L 31 (.load (some 3) (t 30)), ⟨(some 7), false, .alloc 3 [.int .i64 0, .int .i64 0, .string ⟨#[]⟩], none⟩, N (.store 3 (t 7) (t 31) false)])
 (.seq (r [L 32 (.fieldAddr 0 (t 7)), K 33 (.load none (t 32))])
 (.block 0 (.seq (r [L 35 (.bin .eql .none (t 33) (i 0)), J 34 35])
 (.cond (t 34) (r [M 36 0, L 37 (.nilCheck (t 36)), L 38 (.fieldAddr 3 (t 37)), L 39 (.load none (t 38)), L 40 (.bin .sub .none (t 39) (i 1)), L 41 (.nilCheck (t 36)), L 42 (.fieldAddr 3 (t 41)), N (.store 1 (t 42) (t 40) false)]) (.seq (r [L 44 (.bin .eql .none (t 33) (i 2)), J 43 44])
 (.cond (t 43) (r [M 45 0, L 46 (.nilCheck (t 45)), L 47 (.fieldAddr 2 (t 46)), L 48 (.fieldAddr 2 (t 7)), L 49 (.load none (t 48)), L 50 (.call (.func 181) [(t 47), (t 49)])]) (.skip))))))))
 (.seq (r [M 51 0, L 52 (.nilCheck (t 51)), L 53 (.fieldAddr 1 (t 52)), L 54 (.load none (t 53)), M 55 1, L 56 (.load (some 3) (t 5)), L 57 (.indexSl 3 (t 54) (t 55)), N (.store 3 (t 57) (t 56) false)])
 (.seq (r [M 58 0, L 59 (.load (some 3) (t 5)), L 60 (.call (.func 171) [(t 58), (t 59)])])
 (.seq (r [K 6 (.mov (.const (.bool true)))])
 (.ret))))))⟩
def f124 : LFunc := ⟨22, [20, 1, 10, 2, 5, 0, 4], [.tmp 4],
 .seq (r [K 2 (.box 4 (t 0) false), K 4 (.mov (i 0))])
 (.seq (.seq (r [K 5 (.mov (i 0))])
 (.block 0 (.loop [] (.seq (.seq (r [M 6 5, L 7 (.fieldAddr 1 (t 2)), L 8 (.load none (t 7)), L 9 (.len false (t 8)), K 10 (.bin .lss .none (t 6) (t 9))])
 (.cond (t 10) (.skip) (.exit 0)))
 (.seq (.block 1 (.seq (r [L 13 (.fieldAddr 1 (t 2)), L 14 (.load none (t 13)), M 15 5, L 16 (.indexSl 4 (t 14) (t 15)), L 17 (.fieldAddr 0 (t 16)), L 18 (.load none (t 17)), M 19 1, K 20 (.bin .eql .none (t 18) (t 19))])
 (.cond (t 20) (.seq (r [M 21 5, J 4 21])
 (.ret)) (.skip))))
 (r [M 11 5, L 12 (.bin .add .none (t 11) (i 1)), J 5 12]))))))
 (.seq (r [K 4 (.mov (i (-1)))])
 (.ret)))⟩
def f125 : LFunc := ⟨34, [7, 14, 6, 3, 2, 1, 0, 4, 5], [.tmp 4, .tmp 5],
 .seq (r [K 2 (.box 1 (t 0) false), K 3 (.box 9 (t 1) false), K 4 (.mov (.const (.slice none 0 0))), K 5 (.mov (i 0))])
 (.seq (.seq (.region [L 8 (.load none (t 2)), L 9 (.call (.func 45) [(t 8)]), L 10 (.load (some 9) (t 3)), L 11 (.call (.func 182) [(t 9), (t 10)]), ⟨(some 6), false, .alloc 5 [.int .i64 0, .int .i64 0, .string ⟨#[]⟩, .int .i64 0, .string ⟨#[]⟩], none⟩, N (.store 5 (t 6) (t 11) false)] [(2, 1)])
 (.seq (r [L 12 (.fieldAddr 0 (t 6)), L 13 (.load none (t 12)), K 14 (.bin .neq .none (t 13) (i 0))])
 (.cond (t 14) (.seq (r [L 15 (.fieldAddr 0 (t 6)), L 16 (.load none (t 15)), K 4 (.mov (.const (.slice none 0 0))), J 5 16])
 (.ret)) (.skip))))
 (.seq (r [L 17 (.load none (t 2)), L 18 (.fieldAddr 0 (t 3)), L 19 (.load none (t 18)), L 20 (.fieldAddr 1 (t 3)), L 21 (.load none (t 20)), L 22 (.call (.func 184) [(t 17), (t 19), (t 21)]), L 23 (.call (.func 14) [(t 22)]), L 24 (.call (.func 183) [(t 23)]), K 7 (.alloc 1 [.slice none 0 0]), N (.store 1 (t 7) (t 24) false)])
 (.seq (r [L 25 (.load (some 9) (t 3)), L 26 (.load none (t 7)), L 27 (.len false (t 26)), L 28 (.makeFunc (.func 186) [] [(t 2), (t 3), (t 7)]), L 29 (.makeFunc (.func 187) [] [(t 2), (t 3), (t 7)]), L 30 (.build [.int .i64 0, .nilFunc, .nilFunc] [(0, 1, (t 27)), (1, 1, (t 28)), (2, 1, (t 29))]), L 31 (.call (.func 185) [(t 25), (t 30)]), L 32 (.extract (t 31) 0), L 33 (.extract (t 31) 1), J 4 32, J 5 33])
 (.ret))))⟩
def f126 : LFunc := ⟨5, [0, 2], [.cell 2 (some 3)],
 .seq (r [⟨(some 2), false, .alloc 3 [.int .i64 0, .int .i64 0, .string ⟨#[]⟩], none⟩])
 (.seq (r [M 3 0, ⟨(some 4), true, .build [.int .i64 0, .int .i64 0, .string ⟨#[]⟩] [(0, 1, (i 1)), (1, 1, (t 3))], none⟩, N (.store 3 (t 2) (t 4) false)])
 (.ret))⟩
def f127 : LFunc := ⟨5, [0, 2], [.cell 2 (some 3)],
 .seq (r [⟨(some 2), false, .alloc 3 [.int .i64 0, .int .i64 0, .string ⟨#[]⟩], none⟩])
 (.seq (r [M 3 0, ⟨(some 4), true, .build [.int .i64 0, .int .i64 0, .string ⟨#[]⟩] [(0, 1, (i 2)), (2, 1, (t 3))], none⟩, N (.store 3 (t 2) (t 4) false)])
 (.ret))⟩
def f128 : LFunc := ⟨2, [0], [.tmp 0],
 .seq (r [K 0 (.mov (.const (.bool false)))])
 (.seq (r [L 1 (.call (.func 188) []), J 0 1])
 (.ret))⟩
def f129 : LFunc := ⟨2, [0], [.tmp 0],
 .seq (r [K 0 (.mov (.const (.bool false)))])
 (.seq (r [L 1 (.call (.func 189) []), J 0 1])
 (.ret))⟩
def f130 : LFunc := ⟨2, [0], [.tmp 0],
 .seq (r [K 0 (.mov (.const (.bool false)))])
 (.seq (r [L 1 (.call (.func 190) []), J 0 1])
 (.ret))⟩
def f131 : LFunc := ⟨91, [4, 84, 83, 82, 77, 2, 9, 1, 0], [],
 .seq (r [K 2 (.box 1 (t 0) false)])
 (.seq (.seq (r [M 5 1, L 6 (.nilCheck (t 5)), L 7 (.fieldAddr 2 (t 6)), L 8 (.load none (t 7)), K 9 (.bin .gtr .none (t 8) (i 0))])
 (.cond (t 9) (r [L 10 (.load none (t 2)), M 11 1, L 12 (.nilCheck (t 11)), L 13 (.fieldAddr 6 (t 12)), L 14 (.load (some 3) (t 13)), M 15 1, L 16 (.nilCheck (t 15)), L 17 (.fieldAddr 9 (t 16)), L 18 (.load (some 3) (t 17)), L 19 (.call (.func 50) [(t 10), (t 14), (t 18)])]) (.skip)))
 (.seq (.region [L 20 (.load none (t 2)), L 21 (.load none (t 2)), L 22 (.load none (t 2)), L 23 (.load none (t 2)), L 24 (.nilCheck (t 23)), L 25 (.fieldAddr 1 (t 24)), L 26 (.load none (t 25)), M 27 1, L 28 (.nilCheck (t 27)), L 29 (.fieldAddr 1 (t 28)), L 30 (.load none (t 29)), L 31 (.bin .add .none (t 26) (t 30)), L 32 (.load none (t 2)), L 33 (.nilCheck (t 32)), L 34 (.fieldAddr 2 (t 33)), L 35 (.load none (t 34)), M 36 1, L 37 (.nilCheck (t 36)), L 38 (.fieldAddr 2 (t 37)), L 39 (.load none (t 38)), L 40 (.bin .add .none (t 35) (t 39)), L 41 (.load none (t 2)), L 42 (.nilCheck (t 41)), L 43 (.fieldAddr 3 (t 42)), L 44 (.load none (t 43)), M 45 1, L 46 (.nilCheck (t 45)), L 47 (.fieldAddr 3 (t 46)), L 48 (.load none (t 47)), L 49 (.bin .add .none (t 44) (t 48)), L 50 (.nilCheck (t 20)), L 51 (.fieldAddr 1 (t 50)), N (.store 1 (t 51) (t 31) false), L 52 (.nilCheck (t 21)), L 53 (.fieldAddr 2 (t 52)), N (.store 1 (t 53) (t 40) false), L 54 (.nilCheck (t 22)), L 55 (.fieldAddr 3 (t 54)), N (.store 1 (t 55) (t 49) false)] [(1, 32), (2, 32), (2, 35)])
 (.seq (.region [L 56 (.load none (t 2)), L 57 (.load none (t 2)), L 58 (.nilCheck (t 57)), L 59 (.fieldAddr 4 (t 58)), L 60 (.load (some 2) (t 59)), M 61 1, L 62 (.nilCheck (t 61)), L 63 (.fieldAddr 4 (t 62)), L 64 (.load (some 2) (t 63)), L 65 (.call (.func 51) [(t 60), (t 64)]), L 66 (.nilCheck (t 56)), L 67 (.fieldAddr 4 (t 66)), N (.store 2 (t 67) (t 65) false)] [(0, 9)])
 (.seq (.seq (r [L 68 (.load none (t 2)), L 69 (.nilCheck (t 68)), L 70 (.fieldAddr 12 (t 69)), L 71 (.load none (t 70)), L 72 (.bin .eql .ptr (t 71) (.const (.pointer none))), M 73 72, G 74 73 false (.load none (t 2)), G 75 73 false (.mov (t 1)), G 76 73 false (.bin .eql .ptr (t 74) (t 75)), K 77 (.pick (t 73) (.const (.bool true)) (t 76))])
 (.cond (t 77) (.ret) (.skip)))
 (.seq (r [M 78 1, L 79 (.nilCheck (t 78)), L 80 (.fieldAddr 12 (t 79)), L 81 (.load none (t 80)), K 82 (.call (.func 191) [(t 81)])])
 (.block 0 (.rangeFunc (t 82) [83, 84] (r [⟨(some 4), false, .alloc 3 [.int .i64 0, .int .i64 0, .string ⟨#[]⟩], none⟩, N (.store 3 (t 4) (t 83) false)]) (.block 1 (r [L 85 (.load none (t 2)), L 86 (.nilCheck (t 85)), L 87 (.fieldAddr 12 (t 86)), L 88 (.load none (t 87)), L 89 (.load (some 3) (t 4)), L 90 (.call (.func 54) [(t 88), (t 89), (.const (.bool true))])])))))))))⟩
def f132 : LFunc := ⟨6, [0, 2], [.tmp 2],
 .seq (r [K 2 (.mov (.const (.bool false)))])
 (.seq (r [M 3 0, M 4 0, L 5 (.bin .neq .none (t 3) (t 4)), J 2 5])
 (.ret))⟩
def f133 : LFunc := ⟨6, [0, 2], [.tmp 2],
 .seq (r [K 2 (.mov (.const (.bool false)))])
 (.seq (r [M 3 0, M 4 0, L 5 (.bin .neq .none (t 3) (t 4)), J 2 5])
 (.ret))⟩
def f134 : LFunc := ⟨6, [0, 2], [.tmp 2],
 .seq (r [K 2 (.mov (.const (.bool false)))])
 (.seq (r [M 3 0, M 4 0, L 5 (.bin .neq .none (t 3) (t 4)), J 2 5])
 (.ret))⟩
def f135 : LFunc := ⟨16, [14, 4, 0, 5, 8, 6, 7, 1], [],
 .seq (r [K 5 (.load none (t 1)), K 6 (.len false (t 5)), K 7 (.mov (i 0))])
 (.block 0 (.loop [] (.seq (r [K 8 (.bin .lss .none (t 7) (t 6))])
 (.seq (.cond (t 8) (.skip) (.exit 0))
 (.seq (.block 1 (.seq (r [L 9 (.indexSl 1 (t 5) (t 7)), L 10 (.load none (t 9)), J 4 10])
 (.seq (r [M 11 0, M 12 4, L 13 (.call (t 11) [(t 12)]), K 14 (.un .not (t 13))])
 (.cond (t 14) (.ret) (.skip)))))
 (r [L 15 (.bin .add .none (t 7) (i 1)), J 7 15]))))))⟩
def f137 : LFunc := ⟨19, [16, 5, 1, 9, 7, 8, 0, 4], [.tmp 4],
 .seq (r [K 4 (.mov (i 0))])
 (.seq (.seq (r [M 6 0, K 7 (.len false (t 6)), K 8 (.mov (i 0))])
 (.block 0 (.loop [] (.seq (r [K 9 (.bin .lss .none (t 8) (t 7))])
 (.seq (.cond (t 9) (.skip) (.exit 0))
 (.seq (.block 1 (.seq (r [M 10 8, J 5 10])
 (.seq (r [M 11 1, M 12 0, M 13 5, L 14 (.indexSl 2 (t 12) (t 13)), L 15 (.load (some 2) (t 14)), K 16 (.call (t 11) [(t 15)])])
 (.cond (t 16) (.seq (r [M 17 5, J 4 17])
 (.ret)) (.skip)))))
 (r [L 18 (.bin .add .none (t 8) (i 1)), J 8 18])))))))
 (.seq (r [K 4 (.mov (i (-1)))])
 (.ret)))⟩
def f138 : LFunc := ⟨19, [16, 5, 1, 9, 7, 8, 0, 4], [.tmp 4],
 .seq (r [K 4 (.mov (i 0))])
 (.seq (.seq (r [M 6 0, K 7 (.len false (t 6)), K 8 (.mov (i 0))])
 (.block 0 (.loop [] (.seq (r [K 9 (.bin .lss .none (t 8) (t 7))])
 (.seq (.cond (t 9) (.skip) (.exit 0))
 (.seq (.block 1 (.seq (r [M 10 8, J 5 10])
 (.seq (r [M 11 1, M 12 0, M 13 5, L 14 (.indexSl 4 (t 12) (t 13)), L 15 (.load (some 4) (t 14)), K 16 (.call (t 11) [(t 15)])])
 (.cond (t 16) (.seq (r [M 17 5, J 4 17])
 (.ret)) (.skip)))))
 (r [L 18 (.bin .add .none (t 8) (i 1)), J 8 18])))))))
 (.seq (r [K 4 (.mov (i (-1)))])
 (.ret)))⟩
def f139 : LFunc := ⟨8, [1, 2, 0, 3], [.tmp 3],
 .seq (r [K 2 (.box 4 (t 0) false), K 3 (.mov (.const (.bool false)))])
 (.seq (r [L 4 (.fieldAddr 0 (t 2)), L 5 (.load none (t 4)), L 6 (.load none (t 1)), L 7 (.bin .eql .none (t 5) (t 6)), J 3 7])
 (.ret))⟩
def f140 : LFunc := ⟨32, [3, 16, 14, 15, 1, 0, 2], [.cell 2 (some 4)],
 .seq (r [K 1 (.box 4 (t 0) false), ⟨(some 2), false, .alloc 4 [.string ⟨#[]⟩, .slice none 0 0, .string ⟨#[]⟩, .slice none 0 0], none⟩])
 (.seq (r [L 4 (.fieldAddr 1 (t 1)), L 5 (.load none (t 4)), L 6 (.call (.func 145) [(t 5)]), L 7 (.fieldAddr 1 (t 1)), N (.store 1 (t 7) (t 6) false)])
 (.seq (r [L 8 (.fieldAddr 3 (t 1)), L 9 (.load none (t 8)), L 10 (.call (.func 146) [(t 9)]), L 11 (.fieldAddr 3 (t 1)), N (.store 1 (t 11) (t 10) false)])
 (.seq (.seq (r [L 12 (.fieldAddr 3 (t 1)), L 13 (.load none (t 12)), K 14 (.len false (t 13)), K 15 (.mov (i 0))])
 (.block 0 (.loop [] (.seq (r [K 16 (.bin .lss .none (t 15) (t 14))])
 (.seq (.cond (t 16) (.skip) (.exit 0))
 (.seq (.block 1 (.seq (r [M 17 15, J 3 17])
 (.region [L 18 (.fieldAddr 3 (t 1)), L 19 (.load none (t 18)), M 20 3, L 21 (.fieldAddr 3 (t 1)), L 22 (.load none (t 21)), M 23 3, L 24 (.indexSl 2 (t 22) (t 23)), L 25 (.fieldAddr 0 (t 24)), L 26 (.load none (t 25)), L 27 (.call (.func 147) [(t 26)]), L 28 (.indexSl 2 (t 19) (t 20)), L 29 (.fieldAddr 0 (t 28)), N (.store 1 (t 29) (t 27) false)] [(1, 9)])))
 (r [L 30 (.bin .add .none (t 15) (i 1)), J 15 30])))))))
 (.seq (r [L 31 (.load (some 4) (t 1)), N (.store 4 (t 2) (t 31) false)])
 (.ret)))))⟩
def f141 : LFunc := ⟨19, [16, 5, 1, 9, 7, 8, 0, 4], [.tmp 4],
 .seq (r [K 4 (.mov (i 0))])
 (.seq (.seq (r [M 6 0, K 7 (.len false (t 6)), K 8 (.mov (i 0))])
 (.block 0 (.loop [] (.seq (r [K 9 (.bin .lss .none (t 8) (t 7))])
 (.seq (.cond (t 9) (.skip) (.exit 0))
 (.seq (.block 1 (.seq (r [M 10 8, J 5 10])
 (.seq (r [M 11 1, M 12 0, M 13 5, L 14 (.indexSl 4 (t 12) (t 13)), L 15 (.load (some 4) (t 14)), K 16 (.call (t 11) [(t 15)])])
 (.cond (t 16) (.seq (r [M 17 5, J 4 17])
 (.ret)) (.skip)))))
 (r [L 18 (.bin .add .none (t 8) (i 1)), J 8 18])))))))
 (.seq (r [K 4 (.mov (i (-1)))])
 (.ret)))⟩
def f142 : LFunc := ⟨8, [1, 2, 0, 3], [.tmp 3],
 .seq (r [K 2 (.box 4 (t 0) false), K 3 (.mov (.const (.bool false)))])
 (.seq (r [L 4 (.fieldAddr 0 (t 2)), L 5 (.load none (t 4)), L 6 (.load none (t 1)), L 7 (.bin .eql .none (t 5) (t 6)), J 3 7])
 (.ret))⟩
def f143 : LFunc := ⟨8, [1, 2, 0, 3], [.tmp 3],
 .seq (r [K 2 (.box 4 (t 0) false), K 3 (.mov (.const (.bool false)))])
 (.seq (r [L 4 (.fieldAddr 0 (t 2)), L 5 (.load none (t 4)), L 6 (.load none (t 1)), L 7 (.bin .eql .none (t 5) (t 6)), J 3 7])
 (.ret))⟩
def f144 : LFunc := ⟨10, [4, 0, 2], [.tmp 2],
 .seq (r [K 2 (.mov (i 0))])
 (.seq (.seq (r [M 3 0, K 4 (.bin .eql .ptr (t 3) (.const (.pointer none)))])
 (.cond (t 4) (.seq (r [K 2 (.mov (i 0))])
 (.ret)) (.skip)))
 (.seq (r [M 5 0, L 6 (.nilCheck (t 5)), L 7 (.fieldAddr 1 (t 6)), L 8 (.load none (t 7)), L 9 (.len false (t 8)), J 2 9])
 (.ret)))⟩
def f145 : LFunc := ⟨8, [4, 0, 2], [.tmp 2],
 .seq (r [K 2 (.mov (.const (.slice none 0 0)))])
 (.seq (.seq (r [M 3 0, K 4 (.bin .eql .slice (t 3) (.const (.slice none 0 0)))])
 (.cond (t 4) (.seq (r [K 2 (.mov (.const (.slice none 0 0)))])
 (.ret)) (.skip)))
 (.seq (r [⟨(some 5), true, .buildSlice 4 0 [.string ⟨#[]⟩, .int .i64 0, .bool false, .string ⟨#[]⟩] [] false, none⟩, M 6 0, L 7 (.append 4 48 (t 5) (t 6)), J 2 7])
 (.ret)))⟩
def f146 : LFunc := ⟨8, [4, 0, 2], [.tmp 2],
 .seq (r [K 2 (.mov (.const (.slice none 0 0)))])
 (.seq (.seq (r [M 3 0, K 4 (.bin .eql .slice (t 3) (.const (.slice none 0 0)))])
 (.cond (t 4) (.seq (r [K 2 (.mov (.const (.slice none 0 0)))])
 (.ret)) (.skip)))
 (.seq (r [⟨(some 5), true, .buildSlice 2 0 [.slice none 0 0, .string ⟨#[]⟩] [] false, none⟩, M 6 0, L 7 (.append 2 40 (t 5) (t 6)), J 2 7])
 (.ret)))⟩
def f147 : LFunc := ⟨8, [4, 0, 2], [.tmp 2],
 .seq (r [K 2 (.mov (.const (.slice none 0 0)))])
 (.seq (.seq (r [M 3 0, K 4 (.bin .eql .slice (t 3) (.const (.slice none 0 0)))])
 (.cond (t 4) (.seq (r [K 2 (.mov (.const (.slice none 0 0)))])
 (.ret)) (.skip)))
 (.seq (r [⟨(some 5), true, .buildSlice 1 0 [.string ⟨#[]⟩] [] false, none⟩, M 6 0, L 7 (.append 1 16 (t 5) (t 6)), J 2 7])
 (.ret)))⟩
def f148 : LFunc := ⟨49, [31, 4, 11, 2, 17, 10, 9, 8, 0, 1, 6, 7], [.tmp 6, .tmp 7],
 .seq (r [K 4 (.box 3 (t 1) false), K 6 (.mov (i 0)), K 7 (.mov (.const (.bool false)))])
 (.seq (r [M 12 0, L 13 (.len false (t 12)), J 8 13])
 (.seq (r [M 14 8, K 9 (.mov (i 0)), J 10 14])
 (.seq (.block 0 (.loop [] (.seq (.seq (r [M 15 9, M 16 10, K 17 (.bin .lss .none (t 15) (t 16))])
 (.cond (t 17) (.skip) (.exit 0)))
 (.block 1 (.seq (r [M 18 9, M 19 10, L 20 (.bin .add .none (t 18) (t 19)), L 21 (.conv (.int .u64) (t 20)), L 22 (.bin .shr .none (t 21) (.const (.int .u64 1))), L 23 (.conv (.int .i64) (t 22)), J 11 23])
 (.seq (r [M 24 2, M 25 0, M 26 11, L 27 (.indexSl 4 (t 25) (t 26)), L 28 (.load (some 4) (t 27)), L 29 (.load (some 3) (t 4)), L 30 (.call (t 24) [(t 28), (t 29)]), K 31 (.bin .lss .none (t 30) (i 0))])
 (.cond (t 31) (r [M 32 11, L 33 (.bin .add .none (t 32) (i 1)), J 9 33]) (r [M 34 11, J 10 34]))))))))
 (.seq (r [M 35 9, M 36 9, M 37 8, L 38 (.bin .lss .none (t 36) (t 37)), M 39 38, G 40 39 true (.mov (t 2)), G 41 39 true (.mov (t 0)), G 42 39 true (.mov (t 9)), G 43 39 true (.indexSl 4 (t 41) (t 42)), G 44 39 true (.load (some 4) (t 43)), G 45 39 true (.load (some 3) (t 4)), G 46 39 true (.call (t 40) [(t 44), (t 45)]), G 47 39 true (.bin .eql .none (t 46) (i 0)), L 48 (.pick (t 39) (t 47) (.const (.bool false))), J 6 35, J 7 48])
 (.ret)))))⟩
def f149 : LFunc := ⟨14, [4, 3, 2, 1, 0, 5], [.tmp 5],
 .seq (r [K 3 (.box 4 (t 0) false), K 4 (.box 3 (t 1) false), K 5 (.mov (i 0))])
 (.seq (r [L 6 (.load none (t 2)), L 7 (.nilCheck (t 6)), L 8 (.fieldAddr 0 (t 7)), L 9 (.load none (t 8)), L 10 (.fieldAddr 0 (t 3)), L 11 (.load (some 3) (t 10)), L 12 (.load (some 3) (t 4)), L 13 (.call (t 9) [(t 11), (t 12)]), J 5 13])
 (.ret))⟩
def f154 : LFunc := ⟨63, [7, 46, 9, 37, 40, 38, 39, 35, 6, 3, 0, 1, 4], [.tmp 4],
 .seq (r [K 3 (.box 4 (t 1) false), K 4 (.mov (.const (.bool false)))])
 (.seq (.seq (r [M 11 0, L 12 (.fieldAddr 0 (t 3)), L 13 (.load none (t 12)), L 14 (.call (.func 93) [(t 11), (t 13)]), M 10 14, L 15 (.extract (t 10) 0), L 16 (.extract (t 10) 1), ⟨(some 5), true, .alloc 4 [.string ⟨#[]⟩, .slice none 0 0, .string ⟨#[]⟩, .slice none 0 0], none⟩, N (.store 4 (t 5) (t 15) false), J 6 16])
 (.seq (r [M 17 6, M 18 17, G 19 18 false (.fieldAddr 0 (t 3)), G 20 18 false (.load none (t 19)), G 21 18 false (.call (.func 195) [(t 20)]), G 22 18 false (.un .not (t 21)), L 23 (.pick (t 18) (.const (.bool true)) (t 22)), M 24 23, G 25 24 false (.fieldAddr 2 (t 3)), G 26 24 false (.load none (t 25)), ⟨(some 27), true, .bin .neq .none (t 26) (.const (.string ⟨#[]⟩)), (some (24, false))⟩, G 28 24 false (.mov (t 27)), G 29 28 true (.load (some 4) (t 3)), G 30 28 true (.fieldAddr 2 (t 3)), G 31 28 true (.load none (t 30)), G 32 28 true (.call (.func 94) [(t 29), (t 31)]), G 33 28 true (.bin .lss .none (t 32) (i 0)), G 34 24 false (.pick (t 28) (t 33) (.const (.bool false))), K 35 (.pick (t 24) (.const (.bool true)) (t 34))])
 (.cond (t 35) (.seq (r [K 4 (.mov (.const (.bool false)))])
 (.ret)) (.skip))))
 (.seq (r [K 7 (.mov (.const (.slice none 0 0)))])
 (.seq (.seq (r [L 36 (.fieldAddr 1 (t 3)), K 37 (.load none (t 36)), K 38 (.len false (t 37)), K 39 (.mov (i 0))])
 (.block 0 (.loop [] (.seq (r [K 40 (.bin .lss .none (t 39) (t 38))])
 (.seq (.cond (t 40) (.skip) (.exit 0))
 (.seq (.block 1 (.seq (r [L 41 (.indexSl 4 (t 37) (t 39)), L 42 (.load (some 4) (t 41)), ⟨(some 9), false, .alloc 4 [.string ⟨#[]⟩, .int .i64 0, .bool false, .string ⟨#[]⟩], none⟩, N (.store 4 (t 9) (t 42) false)])
 (.seq (.seq (r [L 43 (.fieldAddr 0 (t 9)), L 44 (.load none (t 43)), L 45 (.call (.func 195) [(t 44)]), K 46 (.un .not (t 45))])
 (.cond (t 46) (.seq (r [K 4 (.mov (.const (.bool false)))])
 (.ret)) (.skip)))
 (r [M 47 7, L 48 (.fieldAddr 0 (t 9)), L 49 (.load none (t 48)), ⟨(some 50), true, .buildSlice 1 1 [.string ⟨#[]⟩] [(0, 1, (t 49))] false, none⟩, L 51 (.append 1 16 (t 47) (t 50)), J 7 51]))))
 (r [L 52 (.bin .add .none (t 39) (i 1)), J 39 52])))))))
 (.seq (r [M 53 7, L 54 (.call (.func 196) [(t 53)]), L 55 (.un .not (t 54)), M 56 55, G 57 56 true (.fieldAddr 3 (t 3)), G 58 56 true (.load none (t 57)), G 59 56 true (.makeFunc (.func 198) [] [(t 3)]), G 60 56 true (.call (.func 197) [(t 58), (t 59)]), G 61 56 true (.un .not (t 60)), L 62 (.pick (t 56) (t 61) (.const (.bool false))), J 4 62])
 (.ret)))))⟩
def f155 : LFunc := ⟨9, [1, 0, 4], [.tmp 4],
 .seq (r [K 4 (.mov (.const (.bool false)))])
 (.seq (r [M 5 0, M 6 1, L 7 (.call (.func 141) [(t 5), (t 6)]), L 8 (.bin .geq .none (t 7) (i 0)), J 4 8])
 (.ret))⟩
def f156 : LFunc := ⟨11, [1, 0, 2], [.tmp 2],
 .seq (r [K 1 (.box 4 (t 0) false), K 2 (.mov (.const (.bool false)))])
 (.seq (r [L 3 (.fieldAddr 1 (t 1)), L 4 (.load none (t 3)), L 5 (.bin .neq .none (t 4) (i 1)), M 6 5, G 7 6 true (.fieldAddr 1 (t 1)), G 8 6 true (.load none (t 7)), G 9 6 true (.bin .neq .none (t 8) (i 2)), L 10 (.pick (t 6) (t 9) (.const (.bool false))), J 2 10])
 (.ret))⟩
def f157 : LFunc := ⟨47, [33, 29, 7, 26, 8, 0, 18, 6, 10, 13, 11, 12, 3, 1, 4], [.tmp 4],
 .seq (r [K 3 (.box 4 (t 1) false), K 4 (.mov (i 0))])
 (.seq (.seq (r [L 9 (.fieldAddr 1 (t 3)), K 10 (.load none (t 9)), K 11 (.len false (t 10)), K 12 (.mov (i 0))])
 (.block 0 (.loop [] (.seq (r [K 13 (.bin .lss .none (t 12) (t 11))])
 (.seq (.cond (t 13) (.skip) (.exit 0))
 (.seq (.block 1 (.seq (r [L 14 (.indexSl 4 (t 10) (t 12)), L 15 (.load (some 4) (t 14)), ⟨(some 6), false, .alloc 4 [.string ⟨#[]⟩, .int .i64 0, .bool false, .string ⟨#[]⟩], none⟩, N (.store 4 (t 6) (t 15) false)])
 (.seq (.seq (r [L 16 (.fieldAddr 3 (t 6)), L 17 (.load none (t 16)), ⟨(some 18), false, .bin .eql .none (t 17) (.const (.string ⟨#[]⟩)), none⟩])
 (.cond (t 18) (.exit 1) (.skip)))
 (.seq (r [M 20 0, L 21 (.fieldAddr 3 (t 6)), L 22 (.load none (t 21)), L 23 (.call (.func 93) [(t 20), (t 22)]), M 19 23, L 24 (.extract (t 19) 0), L 25 (.extract (t 19) 1), ⟨(some 7), false, .alloc 4 [.string ⟨#[]⟩, .slice none 0 0, .string ⟨#[]⟩, .slice none 0 0], none⟩, N (.store 4 (t 7) (t 24) false), J 8 25])
 (.block 2 (.seq (r [M 27 8, L 28 (.un .not (t 27)), J 26 28])
 (.cond (t 26) (.seq (r [K 4 (.mov (i 3))])
 (.ret)) (.seq (r [L 30 (.fieldAddr 2 (t 7)), L 31 (.load none (t 30)), ⟨(some 32), true, .bin .eql .none (t 31) (.const (.string ⟨#[]⟩)), none⟩, J 29 32])
 (.cond (t 29) (.seq (r [K 4 (.mov (i 9))])
 (.ret)) (.seq (.region [L 34 (.fieldAddr 1 (t 7)), L 35 (.load none (t 34)), L 36 (.load (some 4) (t 7)), L 37 (.fieldAddr 2 (t 7)), L 38 (.load none (t 37)), L 39 (.call (.func 94) [(t 36), (t 38)]), L 40 (.indexSl 4 (t 35) (t 39)), L 41 (.fieldAddr 1 (t 40)), L 42 (.load none (t 41)), L 43 (.fieldAddr 1 (t 6)), L 44 (.load none (t 43)), L 45 (.bin .neq .none (t 42) (t 44)), J 33 45] [(1, 5), (10, 5)])
 (.cond (t 33) (.seq (r [K 4 (.mov (i 4))])
 (.ret)) (.skip))))))))))))
 (r [L 46 (.bin .add .none (t 12) (i 1)), J 12 46])))))))
 (.seq (r [K 4 (.mov (i 0))])
 (.ret)))⟩
def f158 : LFunc := ⟨12, [8, 0, 2], [.tmp 2],
 .seq (r [K 2 (.mov (.const (.pointer none)))])
 (.seq (.seq (r [M 3 0, L 4 (.bin .neq .none (t 3) (i 1)), M 5 4, G 6 5 true (.mov (t 0)), G 7 5 true (.bin .neq .none (t 6) (i 2)), K 8 (.pick (t 5) (t 7) (.const (.bool false)))])
 (.cond (t 8) (.seq (r [K 2 (.mov (.const (.pointer none)))])
 (.ret)) (.skip)))
 (.seq (r [M 9 0, L 10 (.build [.int .i64 0, .slice none 0 0, .pointer none, .int .i64 0] [(0, 1, (t 9))]), L 11 (.box 4 (t 10) false), J 2 11])
 (.ret)))⟩
def f159 : LFunc := ⟨128, [127, 114, 9, 111, 91, 8, 86, 7, 62, 6, 57, 47, 25, 5, 20, 0, 3, 1, 4], [.tmp 4],
 .seq (r [K 3 (.box 4 (t 1) false), K 4 (.mov (.const (.bool false)))])
 (.seq (.seq (r [L 10 (.fieldAddr 0 (t 3)), L 11 (.load none (t 10)), L 12 (.call (.func 200) [(t 11)]), L 13 (.un .not (t 12)), M 14 13, G 15 14 false (.mov (t 0)), G 16 14 false (.fieldAddr 0 (t 3)), G 17 14 false (.load none (t 16)), G 18 14 false (.call (.func 64) [(t 15), (t 17)]), G 19 14 false (.bin .geq .none (t 18) (i 0)), K 20 (.pick (t 14) (.const (.bool true)) (t 19))])
 (.cond (t 20) (.seq (r [K 4 (.mov (.const (.bool false)))])
 (.ret)) (.skip)))
 (.seq (.seq (r [K 5 (.mov (i 0))])
 (.block 0 (.loop [] (.seq (.seq (r [M 21 5, L 22 (.fieldAddr 1 (t 3)), L 23 (.load none (t 22)), L 24 (.len false (t 23)), K 25 (.bin .lss .none (t 21) (t 24))])
 (.cond (t 25) (.skip) (.exit 0)))
 (.seq (.block 1 (.seq (r [L 28 (.fieldAddr 1 (t 3)), L 29 (.load none (t 28)), M 30 5, L 31 (.indexSl 4 (t 29) (t 30)), L 32 (.fieldAddr 0 (t 31)), L 33 (.load none (t 32)), L 34 (.call (.func 200) [(t 33)]), L 35 (.un .not (t 34)), M 36 35, G 37 36 false (.load (some 4) (t 3)), G 38 36 false (.fieldAddr 1 (t 3)), G 39 36 false (.load none (t 38)), G 40 36 false (.mov (t 5)), G 41 36 false (.indexSl 4 (t 39) (t 40)), G 42 36 false (.fieldAddr 0 (t 41)), G 43 36 false (.load none (t 42)), G 44 36 false (.call (.func 124) [(t 37), (t 43)]), G 45 36 false (.mov (t 5)), G 46 36 false (.bin .neq .none (t 44) (t 45)), K 47 (.pick (t 36) (.const (.bool true)) (t 46))])
 (.cond (t 47) (.seq (r [K 4 (.mov (.const (.bool false)))])
 (.ret)) (.skip))))
 (r [M 26 5, L 27 (.bin .add .none (t 26) (i 1)), J 5 27]))))))
 (.seq (.seq (r [L 48 (.fieldAddr 2 (t 3)), L 49 (.load none (t 48)), ⟨(some 50), true, .bin .neq .none (t 49) (.const (.string ⟨#[]⟩)), none⟩, M 51 50, G 52 51 true (.load (some 4) (t 3)), G 53 51 true (.fieldAddr 2 (t 3)), G 54 51 true (.load none (t 53)), G 55 51 true (.call (.func 124) [(t 52), (t 54)]), G 56 51 true (.bin .lss .none (t 55) (i 0)), K 57 (.pick (t 51) (t 56) (.const (.bool false)))])
 (.cond (t 57) (.seq (r [K 4 (.mov (.const (.bool false)))])
 (.ret)) (.skip)))
 (.seq (.seq (r [K 6 (.mov (i 0))])
 (.block 2 (.loop [] (.seq (.seq (r [M 58 6, L 59 (.fieldAddr 3 (t 3)), L 60 (.load none (t 59)), L 61 (.len false (t 60)), K 62 (.bin .lss .none (t 58) (t 61))])
 (.cond (t 62) (.skip) (.exit 2)))
 (.seq (.block 3 (.seq (r [L 65 (.fieldAddr 3 (t 3)), L 66 (.load none (t 65)), M 67 6, L 68 (.indexSl 2 (t 66) (t 67)), L 69 (.load (some 2) (t 68)), ⟨(some 7), false, .alloc 2 [.slice none 0 0, .string ⟨#[]⟩], none⟩, N (.store 2 (t 7) (t 69) false)])
 (.seq (.seq (r [L 70 (.fieldAddr 0 (t 7)), L 71 (.load none (t 70)), L 72 (.len false (t 71)), L 73 (.bin .lss .none (t 72) (i 1)), M 74 73, G 75 74 false (.fieldAddr 0 (t 7)), G 76 74 false (.load none (t 75)), G 77 74 false (.len false (t 76)), G 78 74 false (.bin .gtr .none (t 77) (i 3)), L 79 (.pick (t 74) (.const (.bool true)) (t 78)), M 80 79, G 81 80 false (.load (some 4) (t 3)), G 82 80 false (.fieldAddr 1 (t 7)), G 83 80 false (.load none (t 82)), G 84 80 false (.call (.func 124) [(t 81), (t 83)]), G 85 80 false (.bin .lss .none (t 84) (i 0)), K 86 (.pick (t 80) (.const (.bool true)) (t 85))])
 (.cond (t 86) (.seq (r [K 4 (.mov (.const (.bool false)))])
 (.ret)) (.skip)))
 (.seq (r [K 8 (.mov (i 0))])
 (.block 4 (.loop [] (.seq (.seq (r [M 87 8, L 88 (.fieldAddr 0 (t 7)), L 89 (.load none (t 88)), L 90 (.len false (t 89)), K 91 (.bin .lss .none (t 87) (t 90))])
 (.cond (t 91) (.skip) (.exit 4)))
 (.seq (.block 5 (.seq (.seq (r [L 94 (.load (some 4) (t 3)), L 95 (.fieldAddr 0 (t 7)), L 96 (.load none (t 95)), M 97 8, L 98 (.indexSl 1 (t 96) (t 97)), L 99 (.load none (t 98)), L 100 (.call (.func 124) [(t 94), (t 99)]), L 101 (.bin .lss .none (t 100) (i 0)), M 102 101, G 103 102 false (.fieldAddr 0 (t 7)), G 104 102 false (.load none (t 103)), G 105 102 false (.mov (t 8)), G 106 102 false (.indexSl 1 (t 104) (t 105)), G 107 102 false (.load none (t 106)), G 108 102 false (.fieldAddr 1 (t 7)), G 109 102 false (.load none (t 108)), G 110 102 false (.bin .eql .none (t 107) (t 109)), K 111 (.pick (t 102) (.const (.bool true)) (t 110))])
 (.cond (t 111) (.seq (r [K 4 (.mov (.const (.bool false)))])
 (.ret)) (.skip)))
 (.seq (r [K 9 (.mov (i 0))])
 (.block 6 (.loop [] (.seq (.seq (r [M 112 9, M 113 8, K 114 (.bin .lss .none (t 112) (t 113))])
 (.cond (t 114) (.skip) (.exit 6)))
 (.seq (.block 7 (.seq (r [L 117 (.fieldAddr 0 (t 7)), L 118 (.load none (t 117)), M 119 9, L 120 (.indexSl 1 (t 118) (t 119)), L 121 (.load none (t 120)), L 122 (.fieldAddr 0 (t 7)), L 123 (.load none (t 122)), M 124 8, L 125 (.indexSl 1 (t 123) (t 124)), L 126 (.load none (t 125)), K 127 (.bin .eql .none (t 121) (t 126))])
 (.cond (t 127) (.seq (r [K 4 (.mov (.const (.bool false)))])
 (.ret)) (.skip))))
 (r [M 115 9, L 116 (.bin .add .none (t 115) (i 1)), J 9 116]))))))))
 (r [M 92 8, L 93 (.bin .add .none (t 92) (i 1)), J 8 93])))))))))
 (r [M 63 6, L 64 (.bin .add .none (t 63) (i 1)), J 6 64]))))))
 (.seq (r [K 4 (.mov (.const (.bool true)))])
 (.ret))))))⟩
def f160 : LFunc := ⟨25, [3, 15, 4, 7, 0, 2], [.tmp 2],
 .seq (r [K 2 (.mov (i 0))])
 (.seq (.seq (r [M 5 0, L 6 (.len false (t 5)), K 7 (.bin .lss .none (t 6) (i 1))])
 (.cond (t 7) (r [⟨(some 8), true, .makeIface 9 (.const (.string ⟨#[115, 108, 105, 99, 101, 115, 46, 77, 97, 120, 58, 32, 101, 109, 112, 116, 121, 32, 108, 105, 115, 116]⟩)), none⟩, N (.panic)]) (.skip)))
 (.seq (r [M 9 0, L 10 (.indexSl 1 (t 9) (i 0)), L 11 (.load none (t 10)), J 3 11])
 (.seq (.seq (r [K 4 (.mov (i 1))])
 (.block 0 (.loop [] (.seq (.seq (r [M 12 4, M 13 0, L 14 (.len false (t 13)), K 15 (.bin .lss .none (t 12) (t 14))])
 (.cond (t 15) (.skip) (.exit 0)))
 (.seq (.block 1 (r [M 18 3, M 19 0, M 20 4, L 21 (.indexSl 1 (t 19) (t 20)), L 22 (.load none (t 21)), L 23 (.max2 (t 18) (t 22)), J 3 23]))
 (r [M 16 4, L 17 (.bin .add .none (t 16) (i 1)), J 4 17]))))))
 (.seq (r [M 24 3, J 2 24])
 (.ret)))))⟩
def f161 : LFunc := ⟨29, [0, 22, 9, 8, 7, 2, 10, 13, 11, 12, 1, 6], [.cell 6 (some 5)],
 .seq (r [⟨(some 6), false, .alloc 5 [.int .i64 0, .int .i64 0, .string ⟨#[]⟩, .int .i64 0, .string ⟨#[]⟩], none⟩])
 (.seq (.seq (r [J 10 1, K 11 (.len false (t 10)), K 12 (.mov (i 0))])
 (.block 0 (.loop [] (.seq (r [K 13 (.bin .lss .none (t 12) (t 11))])
 (.seq (.cond (t 13) (.skip) (.exit 0))
 (.seq (.block 1 (.seq (r [M 14 12, L 15 (.indexSl 1 (t 10) (t 12)), L 16 (.load none (t 15)), J 7 14, J 8 16])
 (.seq (r [M 17 2, M 18 7, M 19 8, L 20 (.call (t 17) [(t 18), (t 19)]), J 9 20])
 (.seq (r [M 21 9, K 22 (.bin .neq .none (t 21) (i 0))])
 (.cond (t 22) (.seq (r [M 23 9, M 24 7, M 25 0, ⟨(some 26), true, .build [.int .i64 0, .int .i64 0, .string ⟨#[]⟩, .int .i64 0, .string ⟨#[]⟩] [(0, 1, (t 23)), (1, 1, (t 24)), (2, 1, (t 25))], none⟩, N (.store 5 (t 6) (t 26) false)])
 (.ret)) (.skip))))))
 (r [L 27 (.bin .add .none (t 12) (i 1)), J 12 27])))))))
 (.seq (r [⟨(some 28), true, .build [.int .i64 0, .int .i64 0, .string ⟨#[]⟩, .int .i64 0, .string ⟨#[]⟩] [], none⟩, N (.store 5 (t 6) (t 28) false)])
 (.ret)))⟩
def f162 : LFunc := ⟨29, [27, 0, 4, 10, 6, 3, 2, 1, 7], [.tmp 7],
 .seq (r [K 6 (.box 1 (t 1) false), K 7 (.mov (i 0))])
 (.seq (r [L 12 (.load none (t 2)), L 13 (.load none (t 3)), L 14 (.load none (t 6)), L 15 (.call (.func 44) [(t 12), (t 13), (t 14)]), M 11 15, L 16 (.extract (t 11) 0), L 17 (.extract (t 11) 1), L 18 (.extract (t 11) 2), ⟨(some 8), true, .alloc 4 [.string ⟨#[]⟩, .int .i64 0, .bool false, .string ⟨#[]⟩], none⟩, N (.store 4 (t 8) (t 16) false), M 9 17, J 10 18])
 (.seq (.seq (r [M 19 10, L 20 (.bin .eql .none (t 19) (i 0)), M 21 20, G 22 21 true (.load none (t 4)), G 23 21 true (.mov (t 0)), G 24 21 true (.sliceSl 1 (t 22) none (some (t 23)) none), G 25 21 true (.makeFunc (.func 164) [] [(t 6)]), G 26 21 true (.call (.func 163) [(t 24), (t 25)]), K 27 (.pick (t 21) (t 26) (.const (.bool false)))])
 (.cond (t 27) (.seq (r [K 7 (.mov (i 3))])
 (.ret)) (.skip)))
 (.seq (r [M 28 10, J 7 28])
 (.ret))))⟩
def f163 : LFunc := ⟨9, [1, 0, 4], [.tmp 4],
 .seq (r [K 4 (.mov (.const (.bool false)))])
 (.seq (r [M 5 0, M 6 1, L 7 (.call (.func 201) [(t 5), (t 6)]), L 8 (.bin .geq .none (t 7) (i 0)), J 4 8])
 (.ret))⟩
def f165 : LFunc := ⟨8, [1, 0, 4], [.tmp 4],
 .seq (r [K 4 (.mov (i 0))])
 (.seq (r [M 5 0, M 6 1, L 7 (.call (.func 202) [(t 5), (t 6)]), J 4 7])
 (.ret))⟩
def f166 : LFunc := ⟨29, [0, 22, 9, 8, 7, 2, 10, 13, 11, 12, 1, 6], [.cell 6 (some 5)],
 .seq (r [⟨(some 6), false, .alloc 5 [.int .i64 0, .int .i64 0, .string ⟨#[]⟩, .int .i64 0, .string ⟨#[]⟩], none⟩])
 (.seq (.seq (r [J 10 1, K 11 (.len false (t 10)), K 12 (.mov (i 0))])
 (.block 0 (.loop [] (.seq (r [K 13 (.bin .lss .none (t 12) (t 11))])
 (.seq (.cond (t 13) (.skip) (.exit 0))
 (.seq (.block 1 (.seq (r [M 14 12, L 15 (.indexSl 2 (t 10) (t 12)), L 16 (.load (some 2) (t 15)), K 8 (.alloc 2 [.int .i64 0, .slice none 0 0]), J 7 14, N (.store 2 (t 8) (t 16) false)])
 (.seq (r [M 17 2, M 18 7, L 19 (.load (some 2) (t 8)), L 20 (.call (t 17) [(t 18), (t 19)]), J 9 20])
 (.seq (r [M 21 9, K 22 (.bin .neq .none (t 21) (i 0))])
 (.cond (t 22) (.seq (r [M 23 9, M 24 7, M 25 0, ⟨(some 26), true, .build [.int .i64 0, .int .i64 0, .string ⟨#[]⟩, .int .i64 0, .string ⟨#[]⟩] [(0, 1, (t 23)), (1, 1, (t 24)), (2, 1, (t 25))], none⟩, N (.store 5 (t 6) (t 26) false)])
 (.ret)) (.skip))))))
 (r [L 27 (.bin .add .none (t 12) (i 1)), J 12 27])))))))
 (.seq (r [⟨(some 28), true, .build [.int .i64 0, .int .i64 0, .string ⟨#[]⟩, .int .i64 0, .string ⟨#[]⟩] [], none⟩, N (.store 5 (t 6) (t 28) false)])
 (.ret)))⟩
def f167 : LFunc := ⟨17, [8, 5, 3, 2, 1, 6], [.tmp 6],
 .seq (r [K 5 (.box 2 (t 1) false), K 6 (.mov (i 0))])
 (.seq (r [L 10 (.load none (t 2)), L 11 (.load none (t 3)), L 12 (.load (some 2) (t 5)), L 13 (.call (.func 168) [(t 10), (t 11), (t 12)]), M 9 13, L 14 (.extract (t 9) 0), L 15 (.extract (t 9) 1), M 7 14, J 8 15])
 (.seq (r [M 16 8, J 6 16])
 (.ret)))⟩
def f168 : LFunc := ⟨71, [57, 8, 46, 42, 10, 1, 0, 32, 29, 5, 2, 6, 7], [.tmp 6, .tmp 7],
 .seq (r [K 5 (.box 2 (t 2) false), K 6 (.mov (i 0)), K 7 (.mov (i 0))])
 (.seq (.seq (r [L 11 (.fieldAddr 0 (t 5)), L 12 (.load none (t 11)), L 13 (.bin .lss .none (t 12) (i 1)), M 14 13, G 15 14 false (.fieldAddr 0 (t 5)), G 16 14 false (.load none (t 15)), G 17 14 false (.bin .gtr .none (t 16) (i 7)), L 18 (.pick (t 14) (.const (.bool true)) (t 17)), M 19 18, G 20 19 false (.fieldAddr 0 (t 5)), G 21 19 false (.load none (t 20)), G 22 19 false (.bin .eql .none (t 21) (i 1)), G 23 19 false (.mov (t 22)), G 24 23 true (.fieldAddr 1 (t 5)), G 25 23 true (.load none (t 24)), G 26 23 true (.len false (t 25)), G 27 23 true (.bin .gtr .none (t 26) (i 0)), G 28 19 false (.pick (t 23) (t 27) (.const (.bool false))), K 29 (.pick (t 19) (.const (.bool true)) (t 28))])
 (.cond (t 29) (.seq (r [K 6 (.mov (i 0)), K 7 (.mov (i 1))])
 (.ret)) (.skip)))
 (.seq (.seq (r [L 30 (.fieldAddr 0 (t 5)), L 31 (.load none (t 30)), K 32 (.bin .eql .none (t 31) (i 1))])
 (.cond (t 32) (.seq (r [K 6 (.mov (i 1)), K 7 (.mov (i 0))])
 (.ret)) (.skip)))
 (.seq (r [M 34 0, M 35 1, L 36 (.fieldAddr 1 (t 5)), L 37 (.load none (t 36)), L 38 (.call (.func 44) [(t 34), (t 35), (t 37)]), M 33 38, L 39 (.extract (t 33) 0), L 40 (.extract (t 33) 1), L 41 (.extract (t 33) 2), ⟨(some 8), false, .alloc 4 [.string ⟨#[]⟩, .int .i64 0, .bool false, .string ⟨#[]⟩], none⟩, N (.store 4 (t 8) (t 39) false), M 9 40, J 10 41])
 (.seq (.block 0 (.seq (r [M 43 10, L 44 (.bin .neq .none (t 43) (i 0)), J 42 44])
 (.cond (t 42) (.seq (r [M 45 10, K 6 (.mov (i 0)), J 7 45])
 (.ret)) (.seq (r [L 47 (.fieldAddr 0 (t 5)), L 48 (.load none (t 47)), L 49 (.bin .eql .none (t 48) (i 4)), M 50 49, G 51 50 false (.fieldAddr 0 (t 5)), G 52 50 false (.load none (t 51)), G 53 50 false (.bin .eql .none (t 52) (i 5)), L 54 (.pick (t 50) (.const (.bool true)) (t 53)), J 46 54])
 (.cond (t 46) (.seq (r [L 55 (.fieldAddr 1 (t 8)), L 56 (.load none (t 55)), J 6 56, K 7 (.mov (i 0))])
 (.ret)) (.seq (r [L 58 (.fieldAddr 0 (t 5)), L 59 (.load none (t 58)), L 60 (.bin .eql .none (t 59) (i 3)), M 61 60, G 62 61 false (.fieldAddr 0 (t 5)), G 63 61 false (.load none (t 62)), G 64 61 false (.bin .eql .none (t 63) (i 6)), L 65 (.pick (t 61) (.const (.bool true)) (t 64)), M 66 65, G 67 66 true (.fieldAddr 1 (t 8)), G 68 66 true (.load none (t 67)), G 69 66 true (.bin .neq .none (t 68) (i 1)), L 70 (.pick (t 66) (t 69) (.const (.bool false))), J 57 70])
 (.cond (t 57) (.seq (r [K 6 (.mov (i 0)), K 7 (.mov (i 4))])
 (.ret)) (.skip))))))))
 (.seq (r [K 6 (.mov (i 1)), K 7 (.mov (i 0))])
 (.ret))))))⟩
def f169 : LFunc := ⟨30, [20, 15, 5, 4, 1, 0, 2], [.tmp 2],
 .seq (r [K 1 (.box 3 (t 0) false), K 2 (.mov (.const (.bool false)))])
 (.seq (.seq (r [L 3 (.fieldAddr 0 (t 1)), K 4 (.load none (t 3))])
 (.block 0 (.seq (r [L 6 (.bin .eql .none (t 4) (i 0)), J 5 6])
 (.cond (t 5) (.seq (r [L 7 (.fieldAddr 1 (t 1)), L 8 (.load none (t 7)), L 9 (.bin .eql .none (t 8) (i 0)), M 10 9, G 11 10 true (.fieldAddr 2 (t 1)), G 12 10 true (.load none (t 11)), ⟨(some 13), true, .bin .eql .none (t 12) (.const (.string ⟨#[]⟩)), (some (10, true))⟩, L 14 (.pick (t 10) (t 13) (.const (.bool false))), J 2 14])
 (.ret)) (.seq (r [L 16 (.bin .eql .none (t 4) (i 1)), J 15 16])
 (.cond (t 15) (.seq (r [L 17 (.fieldAddr 2 (t 1)), L 18 (.load none (t 17)), ⟨(some 19), true, .bin .eql .none (t 18) (.const (.string ⟨#[]⟩)), none⟩, J 2 19])
 (.ret)) (.seq (r [L 21 (.bin .eql .none (t 4) (i 2)), J 20 21])
 (.cond (t 20) (.seq (r [L 22 (.fieldAddr 1 (t 1)), L 23 (.load none (t 22)), L 24 (.bin .eql .none (t 23) (i 0)), M 25 24, G 26 25 true (.fieldAddr 2 (t 1)), G 27 25 true (.load none (t 26)), G 28 25 true (.call (.func 203) [(t 27)]), L 29 (.pick (t 25) (t 28) (.const (.bool false))), J 2 29])
 (.ret)) (.skip)))))))))
 (.seq (r [K 2 (.mov (.const (.bool false)))])
 (.ret)))⟩
def f170 : LFunc := ⟨25, [3, 0, 1, 4], [.tmp 4],
 .seq (r [K 3 (.box 3 (t 1) false), K 4 (.mov (.const (.bool false)))])
 (.seq (r [M 5 0, L 6 (.bin .neq .ptr (t 5) (.const (.pointer none))), M 7 6, G 8 7 true (.fieldAddr 0 (t 3)), G 9 7 true (.load none (t 8)), G 10 7 true (.bin .eql .none (t 9) (i 0)), G 11 7 true (.mov (t 10)), G 12 11 false (.fieldAddr 0 (t 3)), G 13 11 false (.load none (t 12)), G 14 11 false (.mov (t 0)), G 15 11 false (.nilCheck (t 14)), G 16 11 false (.fieldAddr 0 (t 15)), G 17 11 false (.load none (t 16)), G 18 11 false (.bin .eql .none (t 13) (t 17)), G 19 7 true (.pick (t 11) (.const (.bool true)) (t 18)), L 20 (.pick (t 7) (t 19) (.const (.bool false))), M 21 20, G 22 21 true (.load (some 3) (t 3)), G 23 21 true (.call (.func 169) [(t 22)]), L 24 (.pick (t 21) (t 23) (.const (.bool false))), J 4 24])
 (.ret))⟩
def f171 : LFunc := ⟨23, [15, 0, 6, 5, 3, 1], [],
 .seq (r [K 3 (.box 3 (t 1) false)])
 (.seq (r [L 4 (.fieldAddr 0 (t 3)), K 5 (.load none (t 4))])
 (.block 0 (.seq (r [L 7 (.bin .eql .none (t 5) (i 0)), J 6 7])
 (.cond (t 6) (r [M 8 0, L 9 (.nilCheck (t 8)), L 10 (.fieldAddr 3 (t 9)), L 11 (.load none (t 10)), L 12 (.bin .add .none (t 11) (i 1)), L 13 (.nilCheck (t 8)), L 14 (.fieldAddr 3 (t 13)), N (.store 1 (t 14) (t 12) false)]) (.seq (r [L 16 (.bin .eql .none (t 5) (i 2)), J 15 16])
 (.cond (t 15) (r [M 17 0, L 18 (.nilCheck (t 17)), L 19 (.fieldAddr 2 (t 18)), L 20 (.fieldAddr 2 (t 3)), L 21 (.load none (t 20)), L 22 (.call (.func 204) [(t 19), (t 21)])]) (.skip)))))))⟩
def f172 : LFunc := ⟨36, [8, 6, 25, 28, 26, 27, 20, 5, 3, 9, 12, 10, 11, 0, 2], [.tmp 2],
 .seq (r [K 2 (.mov (.const (.slice none 0 0)))])
 (.seq (r [K 3 (.mov (i 0))])
 (.seq (.seq (r [J 9 0, K 10 (.len false (t 9)), K 11 (.mov (i 0))])
 (.block 0 (.loop [] (.seq (r [K 12 (.bin .lss .none (t 11) (t 10))])
 (.seq (.cond (t 12) (.skip) (.exit 0))
 (.seq (.block 1 (.seq (r [L 13 (.indexSl 1 (t 9) (t 11)), L 14 (.load none (t 13)), J 5 14])
 (.seq (r [M 15 3, M 16 5, L 17 (.len false (t 16)), L 18 (.bin .add .none (t 15) (t 17)), J 3 18])
 (.seq (r [M 19 3, K 20 (.bin .lss .none (t 19) (i 0))])
 (.cond (t 20) (r [⟨(some 21), true, .makeIface 9 (.const (.string ⟨#[108, 101, 110, 32, 111, 117, 116, 32, 111, 102, 32, 114, 97, 110, 103, 101]⟩)), none⟩, N (.panic)]) (.skip))))))
 (r [L 22 (.bin .add .none (t 11) (i 1)), J 11 22])))))))
 (.seq (r [M 23 3, L 24 (.call (.func 205) [(.const (.slice none 0 0)), (t 23)]), J 6 24])
 (.seq (.seq (r [J 25 0, K 26 (.len false (t 25)), K 27 (.mov (i 0))])
 (.block 2 (.loop [] (.seq (r [K 28 (.bin .lss .none (t 27) (t 26))])
 (.seq (.cond (t 28) (.skip) (.exit 2))
 (.seq (.block 3 (.seq (r [L 29 (.indexSl 1 (t 25) (t 27)), L 30 (.load none (t 29)), J 8 30])
 (r [M 31 6, M 32 8, L 33 (.append 2 16 (t 31) (t 32)), J 6 33])))
 (r [L 34 (.bin .add .none (t 27) (i 1)), J 27 34])))))))
 (.seq (r [M 35 6, J 2 35])
 (.ret))))))⟩
def f173 : LFunc := ⟨14, [1, 4, 0], [],
 .seq (r [M 5 0, L 6 (.len false (t 5)), J 4 6])
 (r [M 7 0, M 8 4, M 9 4, L 10 (.conv (.int .u64) (t 9)), L 11 (.call (.func 207) [(t 10)]), M 12 1, L 13 (.call (.func 206) [(t 7), (i 0), (t 8), (t 11), (t 12)])])⟩
def f174 : LFunc := ⟨10, [3, 2, 1, 0, 4], [.tmp 4],
 .seq (r [K 2 (.box 2 (t 0) false), K 3 (.box 2 (t 1) false), K 4 (.mov (i 0))])
 (.seq (r [L 5 (.indexArrAddr 1 2 (t 2) (i 0)), L 6 (.load none (t 5)), L 7 (.indexArrAddr 1 2 (t 3) (i 0)), L 8 (.load none (t 7)), L 9 (.bin .sub .none (t 6) (t 8)), J 4 9])
 (.ret))⟩
def f175 : LFunc := ⟨61, [48, 2, 26, 1, 6, 0], [],
 .seq (r [M 7 0, L 8 (.nilCheck (t 7)), L 9 (.fieldAddr 0 (t 8)), L 10 (.load none (t 9)), L 11 (.len false (t 10)), J 6 11])
 (.seq (r [M 12 6, L 13 (.bin .gtr .none (t 12) (i 0)), M 14 13, G 15 14 true (.mov (t 1)), G 16 14 true (.mov (t 0)), G 17 14 true (.nilCheck (t 16)), G 18 14 true (.fieldAddr 0 (t 17)), G 19 14 true (.load none (t 18)), G 20 14 true (.mov (t 6)), G 21 14 true (.bin .sub .none (t 20) (i 1)), G 22 14 true (.indexSl 2 (t 19) (t 21)), G 23 14 true (.indexArrAddr 1 2 (t 22) (i 1)), G 24 14 true (.load none (t 23)), G 25 14 true (.bin .leq .none (t 15) (t 24)), K 26 (.pick (t 14) (t 25) (.const (.bool false)))])
 (.cond (t 26) (r [M 27 0, L 28 (.nilCheck (t 27)), L 29 (.fieldAddr 0 (t 28)), L 30 (.load none (t 29)), M 31 6, L 32 (.bin .sub .none (t 31) (i 1)), M 33 0, L 34 (.nilCheck (t 33)), L 35 (.fieldAddr 0 (t 34)), L 36 (.load none (t 35)), M 37 6, L 38 (.bin .sub .none (t 37) (i 1)), L 39 (.indexSl 2 (t 36) (t 38)), L 40 (.indexArrAddr 1 2 (t 39) (i 1)), L 41 (.load none (t 40)), M 42 2, L 43 (.max2 (t 41) (t 42)), L 44 (.indexSl 2 (t 30) (t 32)), L 45 (.indexArrAddr 1 2 (t 44) (i 1)), N (.store 1 (t 45) (t 43) false)]) (.seq (r [M 46 1, M 47 2, K 48 (.bin .lss .none (t 46) (t 47))])
 (.cond (t 48) (r [M 49 0, M 50 0, L 51 (.nilCheck (t 50)), L 52 (.fieldAddr 0 (t 51)), L 53 (.load none (t 52)), M 54 1, M 55 2, L 56 (.build [.int .i64 0, .int .i64 0] [(0, 1, (t 54)), (1, 1, (t 55))]), L 57 (.buildSlice 2 1 [.int .i64 0, .int .i64 0] [(0, 2, (t 56))] false), L 58 (.append 2 16 (t 53) (t 57)), L 59 (.nilCheck (t 49)), L 60 (.fieldAddr 0 (t 59)), N (.store 1 (t 60) (t 58) false)]) (.skip)))))⟩
def f176 : LFunc := ⟨8, [4, 0, 2], [.tmp 2],
 .seq (r [K 2 (.mov (.const (.slice none 0 0)))])
 (.seq (.seq (r [M 3 0, K 4 (.bin .eql .slice (t 3) (.const (.slice none 0 0)))])
 (.cond (t 4) (.seq (r [K 2 (.mov (.const (.slice none 0 0)))])
 (.ret)) (.skip)))
 (.seq (r [L 5 (.buildSlice 1 0 [.int .i64 0] [] false), M 6 0, L 7 (.append 1 8 (t 5) (t 6)), J 2 7])
 (.ret)))⟩
def f177 : LFunc := ⟨11, [2, 0], [],
 .seq (r [M 3 0, L 4 (.len false (t 3)), J 2 4])
 (r [M 5 0, M 6 2, M 7 2, L 8 (.conv (.int .u64) (t 7)), L 9 (.call (.func 207) [(t 8)]), L 10 (.call (.func 208) [(t 5), (i 0), (t 6), (t 9)])])⟩
def f178 : LFunc := ⟨58, [48, 27, 3, 21, 16, 6, 5, 1, 0, 2], [.tmp 2],
 .seq (r [K 1 (.box 3 (t 0) false), K 2 (.mov (.const (.bool false)))])
 (.seq (.seq (r [L 4 (.fieldAddr 0 (t 1)), K 5 (.load none (t 4))])
 (.block 0 (.seq (r [L 7 (.bin .eql .none (t 5) (i 0)), J 6 7])
 (.cond (t 6) (.seq (r [L 8 (.fieldAddr 1 (t 1)), L 9 (.load none (t 8)), L 10 (.bin .eql .none (t 9) (i 0)), M 11 10, G 12 11 true (.fieldAddr 2 (t 1)), G 13 11 true (.load none (t 12)), ⟨(some 14), true, .bin .eql .none (t 13) (.const (.string ⟨#[]⟩)), (some (11, true))⟩, L 15 (.pick (t 11) (t 14) (.const (.bool false))), J 2 15])
 (.ret)) (.seq (r [L 17 (.bin .eql .none (t 5) (i 1)), J 16 17])
 (.cond (t 16) (.seq (r [L 18 (.fieldAddr 2 (t 1)), L 19 (.load none (t 18)), ⟨(some 20), true, .bin .eql .none (t 19) (.const (.string ⟨#[]⟩)), none⟩, J 2 20])
 (.ret)) (.seq (r [L 22 (.bin .eql .none (t 5) (i 2)), J 21 22])
 (.cond (t 21) (.seq (.seq (r [K 3 (.mov (i 0))])
 (.block 1 (.loop [] (.seq (.seq (r [M 23 3, L 24 (.fieldAddr 2 (t 1)), L 25 (.load none (t 24)), L 26 (.len true (t 25)), K 27 (.bin .lss .none (t 23) (t 26))])
 (.cond (t 27) (.skip) (.exit 1)))
 (.seq (.block 2 (.seq (r [L 30 (.fieldAddr 2 (t 1)), L 31 (.load none (t 30)), M 32 3, L 33 (.indexStr (t 31) (t 32)), L 34 (.bin .lss .none (t 33) (.const (.int .u8 32))), M 35 34, G 36 35 false (.fieldAddr 2 (t 1)), G 37 35 false (.load none (t 36)), G 38 35 false (.mov (t 3)), G 39 35 false (.indexStr (t 37) (t 38)), G 40 35 false (.bin .gtr .none (t 39) (.const (.int .u8 126))), L 41 (.pick (t 35) (.const (.bool true)) (t 40)), M 42 41, G 43 42 false (.fieldAddr 2 (t 1)), G 44 42 false (.load none (t 43)), G 45 42 false (.mov (t 3)), G 46 42 false (.indexStr (t 44) (t 45)), G 47 42 false (.bin .eql .none (t 46) (.const (.int .u8 39))), K 48 (.pick (t 42) (.const (.bool true)) (t 47))])
 (.cond (t 48) (.seq (r [K 2 (.mov (.const (.bool false)))])
 (.ret)) (.skip))))
 (r [M 28 3, L 29 (.bin .add .none (t 28) (i 1)), J 3 29]))))))
 (.seq (r [L 49 (.fieldAddr 1 (t 1)), L 50 (.load none (t 49)), L 51 (.bin .eql .none (t 50) (i 0)), M 52 51, G 53 52 true (.fieldAddr 2 (t 1)), G 54 52 true (.load none (t 53)), G 55 52 true (.len true (t 54)), G 56 52 true (.bin .leq .none (t 55) (i 12)), L 57 (.pick (t 52) (t 56) (.const (.bool false))), J 2 57])
 (.ret))) (.skip)))))))))
 (.seq (r [K 2 (.mov (.const (.bool false)))])
 (.ret)))⟩
def f179 : LFunc := ⟨60, [54, 5, 46, 11, 10, 9, 8, 23, 3, 7, 2, 6, 1, 0, 4], [.cell 4 (some 1)],
 .seq (r [K 2 (.box 1 (t 0) false), K 3 (.box 1 (t 1) false), K 4 (.alloc 1 [.slice none 0 0])])
 (.seq (r [K 5 (.alloc 1 [.slice none 0 0])])
 (.seq (.seq (r [K 6 (.mov (i 0)), K 7 (.mov (i 0))])
 (.block 0 (.loop [] (.seq (.seq (r [M 12 6, L 13 (.fieldAddr 0 (t 2)), L 14 (.load none (t 13)), L 15 (.len false (t 14)), L 16 (.bin .lss .none (t 12) (t 15)), M 17 16, G 18 17 true (.mov (t 7)), G 19 17 true (.fieldAddr 0 (t 3)), G 20 17 true (.load none (t 19)), G 21 17 true (.len false (t 20)), G 22 17 true (.bin .lss .none (t 18) (t 21)), K 23 (.pick (t 17) (t 22) (.const (.bool false)))])
 (.cond (t 23) (.skip) (.exit 0)))
 (.block 1 (.seq (.region [L 24 (.fieldAddr 0 (t 2)), L 25 (.load none (t 24)), M 26 6, L 27 (.indexSl 2 (t 25) (t 26)), L 28 (.load (some 2) (t 27)), L 29 (.fieldAddr 0 (t 3)), L 30 (.load none (t 29)), M 31 7, L 32 (.indexSl 2 (t 30) (t 31)), L 33 (.load (some 2) (t 32)), K 8 (.alloc 2 [.int .i64 0, .int .i64 0]), K 9 (.alloc 2 [.int .i64 0, .int .i64 0]), N (.store 2 (t 8) (t 28) false), N (.store 2 (t 9) (t 33) false)] [(6, 12), (9, 12)])
 (.seq (.seq (r [L 34 (.indexArrAddr 1 2 (t 8) (i 0)), L 35 (.load none (t 34)), L 36 (.indexArrAddr 1 2 (t 9) (i 0)), L 37 (.load none (t 36)), L 38 (.max2 (t 35) (t 37)), L 39 (.indexArrAddr 1 2 (t 8) (i 1)), L 40 (.load none (t 39)), L 41 (.indexArrAddr 1 2 (t 9) (i 1)), L 42 (.load none (t 41)), L 43 (.min2 (t 40) (t 42)), J 10 38, J 11 43])
 (.seq (r [M 44 10, M 45 11, K 46 (.bin .lss .none (t 44) (t 45))])
 (.cond (t 46) (r [M 47 10, M 48 11, L 49 (.call (.func 175) [(t 5), (t 47), (t 48)])]) (.skip))))
 (.seq (r [L 50 (.indexArrAddr 1 2 (t 8) (i 1)), L 51 (.load none (t 50)), L 52 (.indexArrAddr 1 2 (t 9) (i 1)), L 53 (.load none (t 52)), K 54 (.bin .lss .none (t 51) (t 53))])
 (.cond (t 54) (r [M 55 6, L 56 (.bin .add .none (t 55) (i 1)), J 6 56]) (r [M 57 7, L 58 (.bin .add .none (t 57) (i 1)), J 7 58]))))))))))
 (.seq (r [L 59 (.load (some 1) (t 5)), N (.store 1 (t 4) (t 59) false)])
 (.ret))))⟩
def f180 : LFunc := ⟨40, [35, 5, 25, 6, 21, 8, 12, 15, 13, 14, 2, 1, 0, 4], [.cell 4 (some 1)],
 .seq (r [K 2 (.box 1 (t 0) false), K 4 (.alloc 1 [.slice none 0 0])])
 (.seq (r [M 9 1, L 10 (.min2 (t 9) (i 65536)), J 1 10])
 (.seq (r [K 5 (.alloc 1 [.slice none 0 0])])
 (.seq (r [K 6 (.mov (i 0))])
 (.seq (.seq (r [L 11 (.fieldAddr 0 (t 2)), K 12 (.load none (t 11)), K 13 (.len false (t 12)), K 14 (.mov (i 0))])
 (.block 0 (.loop [] (.seq (r [K 15 (.bin .lss .none (t 14) (t 13))])
 (.seq (.cond (t 15) (.skip) (.exit 0))
 (.seq (.block 1 (.seq (r [L 16 (.indexSl 2 (t 12) (t 14)), L 17 (.load (some 2) (t 16)), K 8 (.alloc 2 [.int .i64 0, .int .i64 0]), N (.store 2 (t 8) (t 17) false)])
 (.seq (.seq (r [L 18 (.indexArrAddr 1 2 (t 8) (i 0)), L 19 (.load none (t 18)), M 20 1, K 21 (.bin .geq .none (t 19) (t 20))])
 (.cond (t 21) (.exit 0) (.skip)))
 (.seq (.seq (r [M 22 6, L 23 (.indexArrAddr 1 2 (t 8) (i 0)), L 24 (.load none (t 23)), K 25 (.bin .lss .none (t 22) (t 24))])
 (.cond (t 25) (r [M 26 6, L 27 (.indexArrAddr 1 2 (t 8) (i 0)), L 28 (.load none (t 27)), L 29 (.call (.func 175) [(t 5), (t 26), (t 28)])]) (.skip)))
 (r [L 30 (.indexArrAddr 1 2 (t 8) (i 1)), L 31 (.load none (t 30)), J 6 31])))))
 (r [L 32 (.bin .add .none (t 14) (i 1)), J 14 32])))))))
 (.seq (.seq (r [M 33 6, M 34 1, K 35 (.bin .lss .none (t 33) (t 34))])
 (.cond (t 35) (r [M 36 6, M 37 1, L 38 (.call (.func 175) [(t 5), (t 36), (t 37)])]) (.skip)))
 (.seq (r [L 39 (.load (some 1) (t 5)), N (.store 1 (t 4) (t 39) false)])
 (.ret)))))))⟩
def f181 : LFunc := ⟨28, [23, 7, 17, 6, 1, 5, 0, 4], [.tmp 4],
 .seq (r [K 4 (.mov (.const (.bool false)))])
 (.seq (r [M 8 0, L 9 (.call (.func 209) [(t 8)]), J 5 9])
 (.seq (r [M 11 5, M 12 1, L 13 (.call (.func 210) [(t 11), (t 12)]), M 10 13, L 14 (.extract (t 10) 0), L 15 (.extract (t 10) 1), J 6 14, J 7 15])
 (.seq (.seq (r [M 16 6, K 17 (.bin .gtr .none (t 16) (i 1))])
 (.cond (t 17) (r [M 18 5, M 19 1, M 20 6, L 21 (.bin .sub .none (t 20) (i 1)), L 22 (.call (.func 211) [(t 18), (t 19), (t 21)])]) (.seq (r [J 23 7])
 (.cond (t 23) (r [M 24 5, M 25 1, L 26 (.call (.func 212) [(t 24), (t 25)])]) (.skip)))))
 (.seq (r [M 27 7, J 4 27])
 (.ret)))))⟩
def f182 : LFunc := ⟨14, [3, 2, 1, 0, 4], [.cell 4 (some 5)],
 .seq (r [K 2 (.box 1 (t 0) false), K 3 (.box 9 (t 1) false), ⟨(some 4), false, .alloc 5 [.int .i64 0, .int .i64 0, .string ⟨#[]⟩, .int .i64 0, .string ⟨#[]⟩], none⟩])
 (.seq (r [L 5 (.makeFunc (.func 213) [] [(t 2), (t 3)]), L 6 (.makeFunc (.func 214) [] [(t 2), (t 3)]), L 7 (.makeFunc (.func 215) [] [(t 2), (t 3)]), L 8 (.makeFunc (.func 217) [] [(t 2), (t 3)]), L 9 (.makeFunc (.func 218) [] [(t 2), (t 3)]), L 10 (.makeFunc (.func 220) [] [(t 3)]), L 11 (.makeFunc (.func 222) [] [(t 3)]), L 12 (.buildSlice 1 7 [.nilFunc] [(0, 1, (t 5)), (1, 1, (t 6)), (2, 1, (t 7)), (3, 1, (t 8)), (4, 1, (t 9)), (5, 1, (t 10)), (6, 1, (t 11))] false), L 13 (.call (.func 109) [(t 12)]), N (.store 5 (t 4) (t 13) false)])
 (.ret))⟩
def f183 : LFunc := ⟨5, [0, 2], [.tmp 2],
 .seq (r [K 2 (.mov (.const (.slice none 0 0)))])
 (.seq (r [M 3 0, L 4 (.call (.func 223) [(.const (.slice none 0 0)), (t 3)]), J 2 4])
 (.ret))⟩
def f184 : LFunc := ⟨11, [2, 1, 0, 6], [.cell 6 (some 1)],
 .seq (r [K 6 (.alloc 1 [.slice none 0 0])])
 (.seq (r [M 7 0, M 8 1, M 9 2, L 10 (.call (.func 224) [(t 7), (t 8), (t 9), (.func 225)]), N (.store 1 (t 6) (t 10) false)])
 (.ret))⟩
def f185 : LFunc := ⟨66, [6, 14, 11, 49, 15, 13, 37, 40, 38, 39, 10, 9, 33, 32, 31, 3, 8, 21, 24, 22, 23, 2, 1, 0, 4, 5], [.cell 4 none, .cell 5 none],
 .seq (r [K 2 (.box 9 (t 0) false), K 3 (.box 3 (t 1) false), K 4 (.alloc 1 [.slice none 0 0]), K 5 (.alloc 1 [.int .i64 0])])
 (.seq (r [K 6 (.alloc 1 [.slice none 0 0])])
 (.seq (.seq (r [L 16 (.fieldAddr 2 (t 2)), L 17 (.load none (t 16)), L 18 (.fieldAddr 3 (t 2)), L 19 (.load none (t 18)), L 20 (.len false (t 19)), K 21 (.call (.func 226) [(t 17), (t 20)]), K 22 (.len false (t 21)), K 23 (.mov (i 0))])
 (.block 0 (.loop [] (.seq (r [K 24 (.bin .lss .none (t 23) (t 22))])
 (.seq (.cond (t 24) (.skip) (.exit 0))
 (.seq (.block 1 (.seq (r [L 25 (.indexSl 1 (t 21) (t 23)), L 26 (.load none (t 25)), K 8 (.alloc 1 [.int .i64 0]), N (.store 1 (t 8) (t 26) false)])
 (.seq (r [L 27 (.load (some 9) (t 2)), L 28 (.load none (t 8)), L 29 (.load (some 3) (t 3)), L 30 (.call (.func 227) [(t 27), (t 28), (t 29)]), K 31 (.call (.func 228) [(t 30)])])
 (.block 2 (.rangeFunc (t 31) [32, 33] (.seq (r [J 9 32])
 (r [J 10 33])) (.block 3 (.seq (r [L 34 (.load none (t 8)), M 35 9, L 36 (.build [.int .i64 0, .slice none 0 0] [(0, 1, (t 34)), (1, 1, (t 35))]), K 11 (.alloc 2 [.int .i64 0, .slice none 0 0]), N (.store 2 (t 11) (t 36) false)])
 (.seq (.seq (r [J 37 10, K 38 (.len false (t 37)), K 39 (.mov (i 0))])
 (.block 4 (.loop [] (.seq (r [K 40 (.bin .lss .none (t 39) (t 38))])
 (.seq (.cond (t 40) (.skip) (.exit 4))
 (.seq (.block 5 (.seq (r [L 41 (.indexSl 1 (t 37) (t 39)), L 42 (.load none (t 41)), J 13 42])
 (.seq (r [M 44 13, L 45 (.call (.func 24) [(t 44)]), M 43 45, L 46 (.extract (t 43) 0), L 47 (.extract (t 43) 1), ⟨(some 14), false, .alloc 3 [.int .i64 0, .int .i64 0, .string ⟨#[]⟩], none⟩, N (.store 3 (t 14) (t 46) false), J 15 47])
 (.seq (.seq (r [M 48 15, K 49 (.bin .neq .none (t 48) (i 0))])
 (.cond (t 49) (.seq (r [M 50 15, N (.store 1 (t 4) (.const (.slice none 0 0)) false), N (.store 1 (t 5) (t 50) false)])
 (.ret)) (.skip)))
 (r [L 51 (.fieldAddr 1 (t 11)), L 52 (.load none (t 51)), L 53 (.load (some 3) (t 14)), ⟨(some 54), true, .buildSlice 3 1 [.int .i64 0, .int .i64 0, .string ⟨#[]⟩] [(0, 3, (t 53))] false, none⟩, L 55 (.append 3 32 (t 52) (t 54)), L 56 (.fieldAddr 1 (t 11)), N (.store 1 (t 56) (t 55) false)])))))
 (r [L 57 (.bin .add .none (t 39) (i 1)), J 39 57])))))))
 (r [L 58 (.load none (t 6)), L 59 (.load (some 2) (t 11)), L 60 (.buildSlice 2 1 [.int .i64 0, .slice none 0 0] [(0, 2, (t 59))] false), L 61 (.append 2 32 (t 58) (t 60)), N (.store 1 (t 6) (t 61) false)])))))))))
 (r [L 62 (.bin .add .none (t 23) (i 1)), J 23 62])))))))
 (.seq (r [L 63 (.load (some 9) (t 2)), L 64 (.load none (t 6)), L 65 (.call (.func 229) [(t 63), (t 64)]), N (.store 1 (t 4) (t 65) false), N (.store 1 (t 5) (i 0) false)])
 (.ret))))⟩
def f186 : LFunc := ⟨16, [0, 3, 2, 1, 5], [.tmp 5],
 .seq (r [K 5 (.mov (.const (.slice none 0 0)))])
 (.seq (r [L 6 (.load none (t 1)), L 7 (.fieldAddr 0 (t 2)), L 8 (.load none (t 7)), L 9 (.load none (t 3)), M 10 0, L 11 (.indexSl 1 (t 9) (t 10)), L 12 (.load none (t 11)), L 13 (.fieldAddr 3 (t 2)), L 14 (.load none (t 13)), L 15 (.call (.func 15) [(t 6), (t 8), (t 12), (t 14)]), J 5 15])
 (.ret))⟩
def f187 : LFunc := ⟨31, [9, 2, 1, 0, 5, 4, 3], [],
 .seq (r [L 12 (.load none (t 3)), L 13 (.fieldAddr 0 (t 4)), L 14 (.load none (t 13)), L 15 (.load none (t 5)), M 16 0, L 17 (.indexSl 1 (t 15) (t 16)), L 18 (.load none (t 17)), L 19 (.fieldAddr 4 (t 4)), L 20 (.load none (t 19)), M 21 1, L 22 (.indexSl 2 (t 20) (t 21)), L 23 (.fieldAddr 1 (t 22)), L 24 (.load none (t 23)), L 25 (.call (.func 19) [(t 12), (t 14), (t 18), (t 24)]), M 11 25, L 26 (.extract (t 11) 0), L 27 (.extract (t 11) 1), ⟨(some 9), false, .alloc 3 [.int .i64 0, .int .i64 0, .string ⟨#[]⟩], none⟩, N (.store 3 (t 9) (t 26) false), M 10 27])
 (r [M 28 2, L 29 (.load (some 3) (t 9)), L 30 (.call (.func 20) [(t 28), (t 29), (i 1)])])⟩
def f188 : LFunc := ⟨90, [8, 7, 6, 5, 4, 3, 1, 0], [.tmp 0],
 .seq (r [K 0 (.mov (.const (.bool false)))])
 (.seq (r [L 10 (.call (.func 60) []), L 11 (.call (.func 230) [(t 10)]), M 9 11, L 12 (.extract (t 9) 0), L 13 (.extract (t 9) 1), J 1 12, M 2 13])
 (.seq (r [⟨(some 14), true, .buildSlice 1 1 [.string ⟨#[]⟩] [(0, 1, (.const (.string ⟨#[115, 104, 111, 112]⟩)))] false, none⟩, ⟨(some 15), true, .buildSlice 1 1 [.string ⟨#[]⟩] [(0, 1, (.const (.string ⟨#[120]⟩)))] false, none⟩, L 16 (.buildSlice 1 2 [.slice none 0 0] [(0, 1, (t 14)), (1, 1, (t 15))] false), L 17 (.build [.int .i64 0, .slice none 0 0] [(0, 1, (i 1))]), L 18 (.buildSlice 2 1 [.int .i64 0, .slice none 0 0] [(0, 2, (t 17))] false), ⟨(some 19), true, .build [.string ⟨#[]⟩, .slice none 0 0, .int .i64 0, .slice none 0 0, .slice none 0 0, .slice none 0 0, .slice none 0 0, .int .i64 0, .string ⟨#[]⟩] [(0, 1, (.const (.string ⟨#[115, 97, 108, 101]⟩))), (3, 1, (t 16)), (4, 1, (t 18))], none⟩, ⟨(some 3), false, .alloc 9 [.string ⟨#[]⟩, .slice none 0 0, .int .i64 0, .slice none 0 0, .slice none 0 0, .slice none 0 0, .slice none 0 0, .int .i64 0, .string ⟨#[]⟩], none⟩, N (.store 9 (t 3) (t 19) false)])
 (.seq (r [M 20 1, L 21 (.load (some 9) (t 3)), L 22 (.call (.func 182) [(t 20), (t 21)]), ⟨(some 4), false, .alloc 5 [.int .i64 0, .int .i64 0, .string ⟨#[]⟩, .int .i64 0, .string ⟨#[]⟩], none⟩, N (.store 5 (t 4) (t 22) false)])
 (.seq (r [L 23 (.fieldAddr 3 (t 3)), L 24 (.load none (t 23)), L 25 (.sliceSl 1 (t 24) none (some (i 1)) none), L 26 (.fieldAddr 3 (t 3)), N (.store 1 (t 26) (t 25) false)])
 (.seq (r [M 27 1, L 28 (.load (some 9) (t 3)), L 29 (.call (.func 182) [(t 27), (t 28)]), ⟨(some 5), false, .alloc 5 [.int .i64 0, .int .i64 0, .string ⟨#[]⟩, .int .i64 0, .string ⟨#[]⟩], none⟩, N (.store 5 (t 5) (t 29) false)])
 (.seq (r [⟨(some 30), true, .buildSlice 1 1 [.string ⟨#[]⟩] [(0, 1, (.const (.string ⟨#[116, 97, 103]⟩)))] false, none⟩, L 31 (.build [.int .i64 0, .slice none 0 0] [(0, 1, (i 3)), (1, 1, (t 30))]), L 32 (.buildSlice 2 1 [.int .i64 0, .slice none 0 0] [(0, 2, (t 31))] false), L 33 (.fieldAddr 4 (t 3)), N (.store 1 (t 33) (t 32) false)])
 (.seq (r [M 34 1, L 35 (.load (some 9) (t 3)), L 36 (.call (.func 182) [(t 34), (t 35)]), ⟨(some 6), false, .alloc 5 [.int .i64 0, .int .i64 0, .string ⟨#[]⟩, .int .i64 0, .string ⟨#[]⟩], none⟩, N (.store 5 (t 6) (t 36) false)])
 (.seq (r [M 38 1, ⟨(some 39), true, .buildSlice 1 2 [.string ⟨#[]⟩] [(0, 1, (.const (.string ⟨#[100, 97, 121]⟩))), (1, 1, (.const (.string ⟨#[100]⟩)))] false, none⟩, L 40 (.build [.int .i64 0, .slice none 0 0] [(0, 1, (i 5)), (1, 1, (t 39))]), ⟨(some 41), true, .call (.func 168) [(t 38), (.const (.string ⟨#[115, 97, 108, 101]⟩)), (t 40)], none⟩, M 37 41, L 42 (.extract (t 37) 0), L 43 (.extract (t 37) 1), J 7 42, J 8 43])
 (.seq (r [L 44 (.call (.func 231) []), M 45 44, G 46 45 true (.fieldAddr 0 (t 4)), G 47 45 true (.load none (t 46)), G 48 45 true (.bin .eql .none (t 47) (i 3)), L 49 (.pick (t 45) (t 48) (.const (.bool false))), M 50 49, G 51 50 true (.fieldAddr 1 (t 4)), G 52 50 true (.load none (t 51)), G 53 50 true (.bin .eql .none (t 52) (i 1)), L 54 (.pick (t 50) (t 53) (.const (.bool false))), M 55 54, G 56 55 true (.fieldAddr 2 (t 4)), G 57 55 true (.load none (t 56)), ⟨(some 58), true, .bin .eql .none (t 57) (.const (.string ⟨#[115, 97, 108, 101]⟩)), (some (55, true))⟩, L 59 (.pick (t 55) (t 58) (.const (.bool false))), M 60 59, G 61 60 true (.fieldAddr 0 (t 5)), G 62 60 true (.load none (t 61)), G 63 60 true (.bin .eql .none (t 62) (i 0)), L 64 (.pick (t 60) (t 63) (.const (.bool false))), M 65 64, G 66 65 true (.fieldAddr 0 (t 6)), G 67 65 true (.load none (t 66)), G 68 65 true (.bin .eql .none (t 67) (i 4)), L 69 (.pick (t 65) (t 68) (.const (.bool false))), M 70 69, G 71 70 true (.fieldAddr 1 (t 6)), G 72 70 true (.load none (t 71)), G 73 70 true (.bin .eql .none (t 72) (i 0)), L 74 (.pick (t 70) (t 73) (.const (.bool false))), M 75 74, G 76 75 true (.mov (t 7)), G 77 75 true (.bin .eql .none (t 76) (i 2)), L 78 (.pick (t 75) (t 77) (.const (.bool false))), M 79 78, G 80 79 true (.mov (t 8)), G 81 79 true (.bin .eql .none (t 80) (i 0)), L 82 (.pick (t 79) (t 81) (.const (.bool false))), M 83 82, G 84 83 true (.mov (t 1)), ⟨(some 85), true, .build [.string ⟨#[]⟩, .string ⟨#[]⟩, .slice none 0 0, .slice none 0 0] [(1, 1, (.const (.string ⟨#[120]⟩)))], (some (83, true))⟩, G 86 83 true (.call (.func 63) [(t 84), (t 85)]), G 87 83 true (.field none 0 (t 86)), G 88 83 true (.bin .eql .none (t 87) (i 3)), L 89 (.pick (t 83) (t 88) (.const (.bool false))), J 0 89])
 (.ret))))))))))⟩
def f189 : LFunc := ⟨57, [4, 3, 2, 15, 1, 0], [.tmp 0],
 .seq (r [K 0 (.mov (.const (.bool false)))])
 (.seq (r [L 6 (.call (.func 25) []), M 5 6, L 7 (.extract (t 5) 0), L 8 (.extract (t 5) 1), J 1 7, J 2 8])
 (.seq (.seq (r [M 9 1, L 10 (.bin .eql .ptr (t 9) (.const (.pointer none))), M 11 10, G 12 11 false (.mov (t 1)), ⟨(some 13), true, .call (.func 12) [(t 12), (.const (.string ⟨#[108, 97, 110, 100]⟩))], (some (11, false))⟩, G 14 11 false (.bin .eql .ptr (t 13) (.const (.pointer none))), K 15 (.pick (t 11) (.const (.bool true)) (t 14))])
 (.cond (t 15) (.seq (r [K 0 (.mov (.const (.bool false)))])
 (.ret)) (.skip)))
 (.seq (r [M 16 1, M 17 2, ⟨(some 18), true, .build [.int .i64 0, .int .i64 0, .string ⟨#[]⟩] [(0, 1, (i 1)), (1, 1, (i 1))], none⟩, ⟨(some 19), true, .build [.int .i64 0, .int .i64 0, .string ⟨#[]⟩] [], none⟩, ⟨(some 20), true, .buildSlice 3 2 [.int .i64 0, .int .i64 0, .string ⟨#[]⟩] [(0, 3, (t 18)), (3, 3, (t 19))] false, none⟩, ⟨(some 21), true, .build [.int .i64 0, .string ⟨#[]⟩, .int .i64 0, .string ⟨#[]⟩, .slice none 0 0] [(0, 1, (i 1)), (1, 1, (.const (.string ⟨#[108, 97, 110, 100]⟩))), (4, 1, (t 20))], none⟩, ⟨(some 22), true, .build [.int .i64 0, .int .i64 0, .string ⟨#[]⟩] [(0, 1, (i 1)), (1, 1, (i 2))], none⟩, ⟨(some 23), true, .build [.int .i64 0, .int .i64 0, .string ⟨#[]⟩] [], none⟩, ⟨(some 24), true, .buildSlice 3 2 [.int .i64 0, .int .i64 0, .string ⟨#[]⟩] [(0, 3, (t 22)), (3, 3, (t 23))] false, none⟩, ⟨(some 25), true, .build [.int .i64 0, .string ⟨#[]⟩, .int .i64 0, .string ⟨#[]⟩, .slice none 0 0] [(0, 1, (i 1)), (1, 1, (.const (.string ⟨#[108, 97, 110, 100]⟩))), (4, 1, (t 24))], none⟩, ⟨(some 26), true, .buildSlice 5 2 [.int .i64 0, .string ⟨#[]⟩, .int .i64 0, .string ⟨#[]⟩, .slice none 0 0] [(0, 5, (t 21)), (5, 5, (t 25))] false, none⟩, L 27 (.call (.func 27) [(t 16), (t 17), (t 26)])])
 (.seq (r [⟨(some 28), true, .buildSlice 1 1 [.string ⟨#[]⟩] [(0, 1, (.const (.string ⟨#[105, 100]⟩)))] false, none⟩, ⟨(some 29), true, .build [.int .i64 0, .int .i64 0, .string ⟨#[]⟩] [(0, 1, (i 1)), (1, 1, (i 1))], none⟩, ⟨(some 30), true, .build [.slice none 0 0, .int .i64 0, .int .i64 0, .int .i64 0, .string ⟨#[]⟩] [(0, 1, (t 28)), (1, 1, (i 5)), (2, 3, (t 29))], none⟩, ⟨(some 31), true, .buildSlice 5 1 [.slice none 0 0, .int .i64 0, .int .i64 0, .int .i64 0, .string ⟨#[]⟩] [(0, 5, (t 30))] false, none⟩, J 3 31])
 (.seq (r [M 32 1, M 33 3, ⟨(some 34), true, .call (.func 184) [(t 32), (.const (.string ⟨#[108, 97, 110, 100]⟩)), (t 33)], none⟩, K 4 (.alloc 1 [.slice none 0 0]), N (.store 1 (t 4) (t 34) false)])
 (.seq (r [L 35 (.call (.func 232) []), M 36 35, G 37 36 true (.load (some 1) (t 4)), G 38 36 true (.call (.func 233) [(t 37)]), G 39 36 true (.bin .eql .none (t 38) (i 1)), L 40 (.pick (t 36) (t 39) (.const (.bool false))), M 41 40, G 42 41 true (.load (some 1) (t 4)), G 43 41 true (.call (.func 46) [(t 42), (i 1)]), L 44 (.pick (t 41) (t 43) (.const (.bool false))), M 45 44, G 46 45 true (.mov (t 1)), ⟨(some 47), true, .call (.func 184) [(t 46), (.const (.string ⟨#[108, 97, 110, 100]⟩)), (.const (.slice none 0 0))], (some (45, true))⟩, G 48 45 true (.call (.func 233) [(t 47)]), G 49 45 true (.bin .eql .none (t 48) (i 2)), L 50 (.pick (t 45) (t 49) (.const (.bool false))), M 51 50, G 52 51 true (.mov (t 1)), ⟨(some 53), true, .call (.func 184) [(t 52), (.const (.string ⟨#[120]⟩)), (.const (.slice none 0 0))], (some (51, true))⟩, G 54 51 true (.call (.func 233) [(t 53)]), G 55 51 true (.bin .eql .none (t 54) (i 0)), L 56 (.pick (t 51) (t 55) (.const (.bool false))), J 0 56])
 (.ret)))))))⟩
def f190 : LFunc := ⟨109, [13, 10, 11, 8, 9, 6, 7, 5, 31, 34, 32, 33, 30, 3, 2, 1, 0], [.tmp 0],
 .seq (r [K 0 (.mov (.const (.bool false)))])
 (.seq (r [L 14 (.call (.func 42) [(i 3)]), L 15 (.call (.func 42) [(i 6)]), L 16 (.call (.func 42) [(i 7)]), J 1 14, J 2 15, J 3 16])
 (.seq (.seq (r [M 17 1, L 18 (.bin .eql .ptr (t 17) (.const (.pointer none))), M 19 18, G 20 19 false (.mov (t 2)), G 21 19 false (.bin .eql .ptr (t 20) (.const (.pointer none))), L 22 (.pick (t 19) (.const (.bool true)) (t 21)), M 23 22, G 24 23 false (.mov (t 3)), G 25 23 false (.bin .eql .ptr (t 24) (.const (.pointer none))), L 26 (.pick (t 23) (.const (.bool true)) (t 25)), M 27 26, G 28 27 false (.call (.func 42) [(i 0)]), G 29 27 false (.bin .neq .ptr (t 28) (.const (.pointer none))), K 30 (.pick (t 27) (.const (.bool true)) (t 29))])
 (.cond (t 30) (.seq (r [K 0 (.mov (.const (.bool false)))])
 (.ret)) (.skip)))
 (.seq (.seq (r [K 31 (.buildSlice 1 3 [.int .i64 0] [(0, 1, (i 9223372036854775807)), (1, 1, (i 1)), (2, 1, (i (-4)))] false), K 32 (.len false (t 31)), K 33 (.mov (i 0))])
 (.block 0 (.loop [] (.seq (r [K 34 (.bin .lss .none (t 33) (t 32))])
 (.seq (.cond (t 34) (.skip) (.exit 0))
 (.seq (.block 1 (.seq (r [L 35 (.indexSl 1 (t 31) (t 33)), L 36 (.load none (t 35)), J 5 36])
 (r [M 37 1, M 38 5, L 39 (.call (.func 234) [(t 38)]), L 40 (.call (.func 20) [(t 37), (t 39), (i 1)])])))
 (r [L 41 (.bin .add .none (t 33) (i 1)), J 33 41])))))))
 (.seq (r [M 42 2, L 43 (.call (.func 234) [(i (-7))]), L 44 (.call (.func 20) [(t 42), (t 43), (i 1)])])
 (.seq (r [M 45 2, L 46 (.call (.func 234) [(i 0)]), L 47 (.call (.func 20) [(t 45), (t 46), (i 1)])])
 (.seq (r [M 48 2, ⟨(some 49), true, .build [.int .i64 0, .int .i64 0, .string ⟨#[]⟩] [], none⟩, L 50 (.call (.func 20) [(t 48), (t 49), (i 5)])])
 (.seq (r [M 51 3, L 52 (.call (.func 234) [(i 1)]), L 53 (.call (.func 20) [(t 51), (t 52), (i 2)])])
 (.seq (r [M 54 3, L 55 (.call (.func 234) [(i 1)]), L 56 (.call (.func 20) [(t 54), (t 55), (i 1)])])
 (.seq (r [M 58 1, L 59 (.call (.func 24) [(t 58)]), M 57 59, L 60 (.extract (t 57) 0), L 61 (.extract (t 57) 1), ⟨(some 6), false, .alloc 3 [.int .i64 0, .int .i64 0, .string ⟨#[]⟩], none⟩, N (.store 3 (t 6) (t 60) false), J 7 61])
 (.seq (r [M 63 2, L 64 (.call (.func 24) [(t 63)]), M 62 64, L 65 (.extract (t 62) 0), L 66 (.extract (t 62) 1), ⟨(some 8), false, .alloc 3 [.int .i64 0, .int .i64 0, .string ⟨#[]⟩], none⟩, N (.store 3 (t 8) (t 65) false), J 9 66])
 (.seq (r [M 68 3, L 69 (.call (.func 24) [(t 68)]), M 67 69, L 70 (.extract (t 67) 0), L 71 (.extract (t 67) 1), ⟨(some 10), false, .alloc 3 [.int .i64 0, .int .i64 0, .string ⟨#[]⟩], none⟩, N (.store 3 (t 10) (t 70) false), J 11 71])
 (.seq (r [M 72 1, L 73 (.call (.func 234) [(i 9)]), L 74 (.call (.func 20) [(t 72), (t 73), (i 1)])])
 (.seq (r [M 76 1, L 77 (.call (.func 24) [(t 76)]), M 75 77, L 78 (.extract (t 75) 0), L 79 (.extract (t 75) 1), ⟨(some 12), true, .alloc 3 [.int .i64 0, .int .i64 0, .string ⟨#[]⟩], none⟩, N (.store 3 (t 12) (t 78) false), J 13 79])
 (.seq (r [M 80 7, L 81 (.bin .eql .none (t 80) (i 0)), M 82 81, G 83 82 true (.fieldAddr 1 (t 6)), G 84 82 true (.load none (t 83)), G 85 82 true (.bin .eql .none (t 84) (i 9223372036854775804)), L 86 (.pick (t 82) (t 85) (.const (.bool false))), M 87 86, G 88 87 true (.mov (t 9)), G 89 87 true (.bin .eql .none (t 88) (i 0)), L 90 (.pick (t 87) (t 89) (.const (.bool false))), M 91 90, G 92 91 true (.fieldAddr 1 (t 8)), G 93 91 true (.load none (t 92)), G 94 91 true (.bin .eql .none (t 93) (i (-3))), L 95 (.pick (t 91) (t 94) (.const (.bool false))), M 96 95, G 97 96 true (.mov (t 11)), G 98 96 true (.bin .eql .none (t 97) (i 0)), L 99 (.pick (t 96) (t 98) (.const (.bool false))), M 100 99, G 101 100 true (.fieldAddr 1 (t 10)), G 102 100 true (.load none (t 101)), G 103 100 true (.bin .eql .none (t 102) (i 1)), L 104 (.pick (t 100) (t 103) (.const (.bool false))), M 105 104, G 106 105 true (.mov (t 13)), G 107 105 true (.bin .eql .none (t 106) (i 11)), L 108 (.pick (t 105) (t 107) (.const (.bool false))), J 0 108])
 (.ret)))))))))))))))⟩
def f194 : LFunc := ⟨25, [14, 8, 4, 0, 2], [.tmp 2],
 .seq (r [K 2 (.mov (i 0))])
 (.seq (.seq (r [M 3 0, K 4 (.bin .geq .none (t 3) (.const (.int .u64 4294967296)))])
 (.cond (t 4) (.seq (r [M 5 0, L 6 (.bin .shr .none (t 5) (.const (.int .u64 32))), J 0 6])
 (r [K 2 (.mov (i 32))])) (.skip)))
 (.seq (.seq (r [M 7 0, K 8 (.bin .geq .none (t 7) (.const (.int .u64 65536)))])
 (.cond (t 8) (.seq (r [M 9 0, L 10 (.bin .shr .none (t 9) (.const (.int .u64 16))), J 0 10])
 (r [M 11 2, L 12 (.bin .add .none (t 11) (i 16)), J 2 12])) (.skip)))
 (.seq (.seq (r [M 13 0, K 14 (.bin .geq .none (t 13) (.const (.int .u64 256)))])
 (.cond (t 14) (.seq (r [M 15 0, L 16 (.bin .shr .none (t 15) (.const (.int .u64 8))), J 0 16])
 (r [M 17 2, L 18 (.bin .add .none (t 17) (i 8)), J 2 18])) (.skip)))
 (.seq (r [M 19 2, M 20 0, L 21 (.conv (.int .u8) (t 20)), ⟨(some 22), true, .indexStr (.const (.string ⟨#[0, 1, 2, 2, 3, 3, 3, 3, 4, 4, 4, 4, 4, 4, 4, 4, 5, 5, 5, 5, 5, 5, 5, 5, 5, 5, 5, 5, 5, 5, 5, 5, 6, 6, 6, 6, 6, 6, 6, 6, 6, 6, 6, 6, 6, 6, 6, 6, 6, 6, 6, 6, 6, 6, 6, 6, 6, 6, 6, 6, 6, 6, 6, 6, 7, 7, 7, 7, 7, 7, 7, 7, 7, 7, 7, 7, 7, 7, 7, 7, 7, 7, 7, 7, 7, 7, 7, 7, 7, 7, 7, 7, 7, 7, 7, 7, 7, 7, 7, 7, 7, 7, 7, 7, 7, 7, 7, 7, 7, 7, 7, 7, 7, 7, 7, 7, 7, 7, 7, 7, 7, 7, 7, 7, 7, 7, 7, 7, 8, 8, 8, 8, 8, 8, 8, 8, 8, 8, 8, 8, 8, 8, 8, 8, 8, 8, 8, 8, 8, 8, 8, 8, 8, 8, 8, 8, 8, 8, 8, 8, 8, 8, 8, 8, 8, 8, 8, 8, 8, 8, 8, 8, 8, 8, 8, 8, 8, 8, 8, 8, 8, 8, 8, 8, 8, 8, 8, 8, 8, 8, 8, 8, 8, 8, 8, 8, 8, 8, 8, 8, 8, 8, 8, 8, 8, 8, 8, 8, 8, 8, 8, 8, 8, 8, 8, 8, 8, 8, 8, 8, 8, 8, 8, 8, 8, 8, 8, 8, 8, 8, 8, 8, 8, 8, 8, 8, 8, 8, 8, 8, 8, 8, 8, 8, 8, 8, 8, 8, 8, 8, 8, 8, 8, 8, 8, 8]⟩)) (t 21), none⟩, L 23 (.conv (.int .i64) (t 22)), L 24 (.bin .add .none (t 19) (t 23)), J 2 24])
 (.ret)))))⟩
def f195 : LFunc := ⟨38, [36, 3, 23, 21, 22, 19, 0, 2], [.tmp 2],
 .seq (r [K 2 (.mov (.const (.bool false)))])
 (.seq (.seq (r [M 4 0, ⟨(some 5), true, .bin .eql .none (t 4) (.const (.string ⟨#[]⟩)), none⟩, M 6 5, G 7 6 false (.mov (t 0)), G 8 6 false (.len true (t 7)), G 9 6 false (.bin .gtr .none (t 8) (i 12)), L 10 (.pick (t 6) (.const (.bool true)) (t 9)), M 11 10, G 12 11 false (.mov (t 0)), G 13 11 false (.indexStr (t 12) (i 0)), G 14 11 false (.call (.func 237) [(t 13)]), L 15 (.pick (t 11) (.const (.bool true)) (t 14)), M 16 15, G 17 16 false (.mov (t 0)), G 18 16 false (.call (.func 238) [(t 17)]), K 19 (.pick (t 16) (.const (.bool true)) (t 18))])
 (.cond (t 19) (.seq (r [K 2 (.mov (.const (.bool false)))])
 (.ret)) (.skip)))
 (.seq (.seq (r [M 20 0, K 21 (.len true (t 20)), K 22 (.mov (i 0))])
 (.block 0 (.loop [] (.seq (r [K 23 (.bin .lss .none (t 22) (t 21))])
 (.seq (.cond (t 23) (.skip) (.exit 0))
 (.seq (.block 1 (.seq (r [M 24 22, J 3 24])
 (.seq (r [M 25 0, M 26 3, L 27 (.indexStr (t 25) (t 26)), L 28 (.call (.func 239) [(t 27)]), L 29 (.un .not (t 28)), M 30 29, G 31 30 true (.mov (t 0)), G 32 30 true (.mov (t 3)), G 33 30 true (.indexStr (t 31) (t 32)), G 34 30 true (.call (.func 237) [(t 33)]), G 35 30 true (.un .not (t 34)), K 36 (.pick (t 30) (t 35) (.const (.bool false)))])
 (.cond (t 36) (.seq (r [K 2 (.mov (.const (.bool false)))])
 (.ret)) (.skip)))))
 (r [L 37 (.bin .add .none (t 22) (i 1)), J 22 37])))))))
 (.seq (r [K 2 (.mov (.const (.bool true)))])
 (.ret))))⟩
def f196 : LFunc := ⟨18, [16, 4, 3, 5, 8, 6, 7, 0, 2], [.tmp 2],
 .seq (r [K 2 (.mov (.const (.bool false)))])
 (.seq (.seq (r [J 5 0, K 6 (.len false (t 5)), K 7 (.mov (i 0))])
 (.block 0 (.loop [] (.seq (r [K 8 (.bin .lss .none (t 7) (t 6))])
 (.seq (.cond (t 8) (.skip) (.exit 0))
 (.seq (.block 1 (.seq (r [M 9 7, L 10 (.indexSl 1 (t 5) (t 7)), L 11 (.load none (t 10)), J 3 9, J 4 11])
 (.seq (r [M 12 0, M 13 3, L 14 (.sliceSl 1 (t 12) none (some (t 13)) none), M 15 4, K 16 (.call (.func 240) [(t 14), (t 15)])])
 (.cond (t 16) (.seq (r [K 2 (.mov (.const (.bool true)))])
 (.ret)) (.skip)))))
 (r [L 17 (.bin .add .none (t 7) (i 1)), J 7 17])))))))
 (.seq (r [K 2 (.mov (.const (.bool false)))])
 (.ret)))⟩
def f197 : LFunc := ⟨9, [1, 0, 4], [.tmp 4],
 .seq (r [K 4 (.mov (.const (.bool false)))])
 (.seq (r [M 5 0, M 6 1, L 7 (.call (.func 241) [(t 5), (t 6)]), L 8 (.bin .geq .none (t 7) (i 0)), J 4 8])
 (.ret))⟩
def f198 : LFunc := ⟨8, [2, 1, 0, 3], [.tmp 3],
 .seq (r [K 2 (.box 2 (t 0) false), K 3 (.mov (.const (.bool false)))])
 (.seq (r [L 4 (.load (some 4) (t 1)), L 5 (.load (some 2) (t 2)), L 6 (.call (.func 199) [(t 4), (t 5)]), L 7 (.un .not (t 6)), J 3 7])
 (.ret))⟩
end Go.Proofs.YtojbggomekgkcaaGreat.C
