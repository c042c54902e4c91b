import Derived.Test.YtojbggomekgkcaaGreatEvD
import Derived.Test.YtojbggomekgkcaaGreatLitA
import Derived.Test.YtojbggomekgkcaaGreatLitB
import Derived.Test.YtojbggomekgkcaaGreatProg
import Derived.KernelRfl
/- What the program's functions compile to: part 2 of 4. -/
namespace Go.Proofs.YtojbggomekgkcaaGreat.C
open Go Go.Ev Go.Proofs
set_option maxRecDepth 100000
theorem both2_ {l m : List (Nat × LFunc)} {Q : Nat × LFunc → Prop} (h : ∀ p ∈ l, Q p) (g : ∀ p ∈ m, Q p) : ∀ p ∈ l ++ m, Q p := fun p hp => (List.mem_append.1 hp).elim (h p) (g p)
theorem c5 : funsOf Tryz.prog (fun _ => []) 5 = some f5 := by kernel_rfl
theorem c9 : funsOf Tryz.prog (fun _ => []) 9 = some f9 := by kernel_rfl
theorem c13 : funsOf Tryz.prog (fun _ => []) 13 = some f13 := by kernel_rfl
theorem c17 : funsOf Tryz.prog (fun _ => []) 17 = some f17 := by kernel_rfl
theorem c21 : funsOf Tryz.prog (fun _ => []) 21 = some f21 := by kernel_rfl
theorem c25 : funsOf Tryz.prog (fun _ => []) 25 = some f25 := by kernel_rfl
theorem c29 : funsOf Tryz.prog (fun _ => []) 29 = some f29 := by kernel_rfl
theorem c33 : funsOf Tryz.prog (fun _ => []) 33 = some f33 := by kernel_rfl
theorem c37 : funsOf Tryz.prog (fun _ => []) 37 = some f37 := by kernel_rfl
theorem c41 : funsOf Tryz.prog (fun _ => []) 41 = some f41 := by kernel_rfl
theorem c45 : funsOf Tryz.prog (fun _ => []) 45 = some f45 := by kernel_rfl
theorem c49 : funsOf Tryz.prog (fun _ => []) 49 = some f49 := by kernel_rfl
theorem c53 : funsOf Tryz.prog (fun _ => []) 53 = some f53 := by kernel_rfl
theorem c57 : funsOf Tryz.prog (fun _ => []) 57 = some f57 := by kernel_rfl
theorem c61 : funsOf Tryz.prog (fun _ => []) 61 = some f61 := by kernel_rfl
theorem c65 : funsOf Tryz.prog (fun _ => []) 65 = some f65 := by kernel_rfl
theorem c71 : funsOf Tryz.prog (fun _ => []) 71 = some f71 := by kernel_rfl
theorem c75 : funsOf Tryz.prog (fun _ => []) 75 = some f75 := by kernel_rfl
theorem c79 : funsOf Tryz.prog (fun _ => []) 79 = some f79 := by kernel_rfl
theorem c83 : funsOf Tryz.prog (fun _ => []) 83 = some f83 := by kernel_rfl
theorem c87 : funsOf Tryz.prog (fun _ => []) 87 = some f87 := by kernel_rfl
theorem c93 : funsOf Tryz.prog (fun _ => []) 93 = some f93 := by kernel_rfl
theorem c97 : funsOf Tryz.prog (fun _ => []) 97 = some f97 := by kernel_rfl
theorem c102 : funsOf Tryz.prog (fun _ => []) 102 = some f102 := by kernel_rfl
theorem c106 : funsOf Tryz.prog (fun _ => []) 106 = some f106 := by kernel_rfl
theorem c110 : funsOf Tryz.prog (fun _ => []) 110 = some f110 := by kernel_rfl
theorem c114 : funsOf Tryz.prog (fun _ => []) 114 = some f114 := by kernel_rfl
theorem c118 : funsOf Tryz.prog (fun _ => []) 118 = some f118 := by kernel_rfl
theorem c122 : funsOf Tryz.prog (fun _ => []) 122 = some f122 := by kernel_rfl
theorem c127 : funsOf Tryz.prog (fun _ => []) 127 = some f127 := by kernel_rfl
theorem c131 : funsOf Tryz.prog (fun _ => []) 131 = some f131 := by kernel_rfl
theorem c135 : funsOf Tryz.prog (fun _ => []) 135 = some f135 := by kernel_rfl
theorem c140 : funsOf Tryz.prog (fun _ => []) 140 = some f140 := by kernel_rfl
theorem c144 : funsOf Tryz.prog (fun _ => []) 144 = some f144 := by kernel_rfl
theorem c148 : funsOf Tryz.prog (fun _ => []) 148 = some f148 := by kernel_rfl
theorem c156 : funsOf Tryz.prog (fun _ => []) 156 = some f156 := by kernel_rfl
theorem c160 : funsOf Tryz.prog (fun _ => []) 160 = some f160 := by kernel_rfl
theorem c165 : funsOf Tryz.prog (fun _ => []) 165 = some f165 := by kernel_rfl
theorem c169 : funsOf Tryz.prog (fun _ => []) 169 = some f169 := by kernel_rfl
theorem c173 : funsOf Tryz.prog (fun _ => []) 173 = some f173 := by kernel_rfl
theorem c177 : funsOf Tryz.prog (fun _ => []) 177 = some f177 := by kernel_rfl
theorem c181 : funsOf Tryz.prog (fun _ => []) 181 = some f181 := by kernel_rfl
theorem c185 : funsOf Tryz.prog (fun _ => []) 185 = some f185 := by kernel_rfl
theorem c189 : funsOf Tryz.prog (fun _ => []) 189 = some f189 := by kernel_rfl
theorem c196 : funsOf Tryz.prog (fun _ => []) 196 = some f196 := by kernel_rfl
theorem c200 : funsOf Tryz.prog (fun _ => []) 200 = some f200 := by kernel_rfl
theorem c204 : funsOf Tryz.prog (fun _ => []) 204 = some f204 := by kernel_rfl
theorem c208 : funsOf Tryz.prog (fun _ => []) 208 = some f208 := by kernel_rfl
theorem c212 : funsOf Tryz.prog (fun _ => []) 212 = some f212 := by kernel_rfl
theorem c216 : funsOf Tryz.prog (fun _ => []) 216 = some f216 := by kernel_rfl
theorem c220 : funsOf Tryz.prog (fun _ => []) 220 = some f220 := by kernel_rfl
theorem c224 : funsOf Tryz.prog (fun _ => []) 224 = some f224 := by kernel_rfl
theorem c228 : funsOf Tryz.prog (fun _ => []) 228 = some f228 := by kernel_rfl
theorem c232 : funsOf Tryz.prog (fun _ => []) 232 = some f232 := by kernel_rfl
theorem c238 : funsOf Tryz.prog (fun _ => []) 238 = some f238 := by kernel_rfl
theorem c242 : funsOf Tryz.prog (fun _ => []) 242 = some f242 := by kernel_rfl
theorem c246 : funsOf Tryz.prog (fun _ => []) 246 = some f246 := by kernel_rfl
theorem c265 : funsOf Tryz.prog (fun _ => []) 265 = some f265 := by kernel_rfl
theorem c269 : funsOf Tryz.prog (fun _ => []) 269 = some f269 := by kernel_rfl
theorem c277 : funsOf Tryz.prog (fun _ => []) 277 = some f277 := by kernel_rfl
theorem c281 : funsOf Tryz.prog (fun _ => []) 281 = some f281 := by kernel_rfl
theorem c285 : funsOf Tryz.prog (fun _ => []) 285 = some f285 := by kernel_rfl
theorem c289 : funsOf Tryz.prog (fun _ => []) 289 = some f289 := by kernel_rfl
theorem c295 : funsOf Tryz.prog (fun _ => []) 295 = some f295 := by kernel_rfl
theorem c300 : funsOf Tryz.prog (fun _ => []) 300 = some f300 := by kernel_rfl
theorem c312 : funsOf Tryz.prog (fun _ => []) 312 = some f312 := by kernel_rfl
theorem c318 : funsOf Tryz.prog (fun _ => []) 318 = some f318 := by kernel_rfl
theorem c322 : funsOf Tryz.prog (fun _ => []) 322 = some f322 := by kernel_rfl
theorem c326 : funsOf Tryz.prog (fun _ => []) 326 = some f326 := by kernel_rfl
theorem c330 : funsOf Tryz.prog (fun _ => []) 330 = some f330 := by kernel_rfl
theorem c336 : funsOf Tryz.prog (fun _ => []) 336 = some f336 := by kernel_rfl
theorem c340 : funsOf Tryz.prog (fun _ => []) 340 = some f340 := by kernel_rfl
theorem c348 : funsOf Tryz.prog (fun _ => []) 348 = some f348 := by kernel_rfl
theorem c352 : funsOf Tryz.prog (fun _ => []) 352 = some f352 := by kernel_rfl
theorem c358 : funsOf Tryz.prog (fun _ => []) 358 = some f358 := by kernel_rfl
theorem c363 : funsOf Tryz.prog (fun _ => []) 363 = some f363 := by kernel_rfl
theorem c367 : funsOf Tryz.prog (fun _ => []) 367 = some f367 := by kernel_rfl
theorem c372 : funsOf Tryz.prog (fun _ => []) 372 = some f372 := by kernel_rfl
theorem c378 : funsOf Tryz.prog (fun _ => []) 378 = some f378 := by kernel_rfl
theorem c385 : funsOf Tryz.prog (fun _ => []) 385 = some f385 := by kernel_rfl
theorem c389 : funsOf Tryz.prog (fun _ => []) 389 = some f389 := by kernel_rfl
theorem c393 : funsOf Tryz.prog (fun _ => []) 393 = some f393 := by kernel_rfl
theorem c408 : funsOf Tryz.prog (fun _ => []) 408 = some f408 := by kernel_rfl
theorem c416 : funsOf Tryz.prog (fun _ => []) 416 = some f416 := by kernel_rfl
theorem c427 : funsOf Tryz.prog (fun _ => []) 427 = some f427 := by kernel_rfl
theorem c431 : funsOf Tryz.prog (fun _ => []) 431 = some f431 := by kernel_rfl
theorem c435 : funsOf Tryz.prog (fun _ => []) 435 = some f435 := by kernel_rfl
theorem c442 : funsOf Tryz.prog (fun _ => []) 442 = some f442 := by kernel_rfl
theorem c446 : funsOf Tryz.prog (fun _ => []) 446 = some f446 := by kernel_rfl
theorem c451 : funsOf Tryz.prog (fun _ => []) 451 = some f451 := by kernel_rfl
theorem c455 : funsOf Tryz.prog (fun _ => []) 455 = some f455 := by kernel_rfl
def l20 : List (Nat × LFunc) := [(5, f5), (9, f9), (13, f13), (17, f17), (21, f21), (25, f25), (29, f29), (33, f33), (37, f37), (41, f41), (45, f45), (49, f49), (53, f53), (57, f57), (61, f61), (65, f65), (71, f71), (75, f75), (79, f79), (83, f83), (87, f87), (93, f93), (97, f97), (102, f102), (106, f106), (110, f110), (114, f114), (118, f118), (122, f122), (127, f127)]
theorem a20 : ∀ p ∈ l20, funsOf Tryz.prog (fun _ => []) p.1 = some p.2 := (List.forall_mem_cons.2 ⟨c5, (List.forall_mem_cons.2 ⟨c9, (List.forall_mem_cons.2 ⟨c13, (List.forall_mem_cons.2 ⟨c17, (List.forall_mem_cons.2 ⟨c21, (List.forall_mem_cons.2 ⟨c25, (List.forall_mem_cons.2 ⟨c29, (List.forall_mem_cons.2 ⟨c33, (List.forall_mem_cons.2 ⟨c37, (List.forall_mem_cons.2 ⟨c41, (List.forall_mem_cons.2 ⟨c45, (List.forall_mem_cons.2 ⟨c49, (List.forall_mem_cons.2 ⟨c53, (List.forall_mem_cons.2 ⟨c57, (List.forall_mem_cons.2 ⟨c61, (List.forall_mem_cons.2 ⟨c65, (List.forall_mem_cons.2 ⟨c71, (List.forall_mem_cons.2 ⟨c75, (List.forall_mem_cons.2 ⟨c79, (List.forall_mem_cons.2 ⟨c83, (List.forall_mem_cons.2 ⟨c87, (List.forall_mem_cons.2 ⟨c93, (List.forall_mem_cons.2 ⟨c97, (List.forall_mem_cons.2 ⟨c102, (List.forall_mem_cons.2 ⟨c106, (List.forall_mem_cons.2 ⟨c110, (List.forall_mem_cons.2 ⟨c114, (List.forall_mem_cons.2 ⟨c118, (List.forall_mem_cons.2 ⟨c122, (List.forall_mem_cons.2 ⟨c127, (fun _ h => absurd h (List.not_mem_nil))⟩)⟩)⟩)⟩)⟩)⟩)⟩)⟩)⟩)⟩)⟩)⟩)⟩)⟩)⟩)⟩)⟩)⟩)⟩)⟩)⟩)⟩)⟩)⟩)⟩)⟩)⟩)⟩)⟩)⟩)
def l21 : List (Nat × LFunc) := [(131, f131), (135, f135), (140, f140), (144, f144), (148, f148), (156, f156), (160, f160), (165, f165), (169, f169), (173, f173), (177, f177), (181, f181), (185, f185), (189, f189), (196, f196), (200, f200), (204, f204), (208, f208), (212, f212), (216, f216), (220, f220), (224, f224), (228, f228), (232, f232), (238, f238), (242, f242), (246, f246), (265, f265), (269, f269), (277, f277)]
theorem a21 : ∀ p ∈ l21, funsOf Tryz.prog (fun _ => []) p.1 = some p.2 := (List.forall_mem_cons.2 ⟨c131, (List.forall_mem_cons.2 ⟨c135, (List.forall_mem_cons.2 ⟨c140, (List.forall_mem_cons.2 ⟨c144, (List.forall_mem_cons.2 ⟨c148, (List.forall_mem_cons.2 ⟨c156, (List.forall_mem_cons.2 ⟨c160, (List.forall_mem_cons.2 ⟨c165, (List.forall_mem_cons.2 ⟨c169, (List.forall_mem_cons.2 ⟨c173, (List.forall_mem_cons.2 ⟨c177, (List.forall_mem_cons.2 ⟨c181, (List.forall_mem_cons.2 ⟨c185, (List.forall_mem_cons.2 ⟨c189, (List.forall_mem_cons.2 ⟨c196, (List.forall_mem_cons.2 ⟨c200, (List.forall_mem_cons.2 ⟨c204, (List.forall_mem_cons.2 ⟨c208, (List.forall_mem_cons.2 ⟨c212, (List.forall_mem_cons.2 ⟨c216, (List.forall_mem_cons.2 ⟨c220, (List.forall_mem_cons.2 ⟨c224, (List.forall_mem_cons.2 ⟨c228, (List.forall_mem_cons.2 ⟨c232, (List.forall_mem_cons.2 ⟨c238, (List.forall_mem_cons.2 ⟨c242, (List.forall_mem_cons.2 ⟨c246, (List.forall_mem_cons.2 ⟨c265, (List.forall_mem_cons.2 ⟨c269, (List.forall_mem_cons.2 ⟨c277, (fun _ h => absurd h (List.not_mem_nil))⟩)⟩)⟩)⟩)⟩)⟩)⟩)⟩)⟩)⟩)⟩)⟩)⟩)⟩)⟩)⟩)⟩)⟩)⟩)⟩)⟩)⟩)⟩)⟩)⟩)⟩)⟩)⟩)⟩)⟩)
def l22 : List (Nat × LFunc) := [(281, f281), (285, f285), (289, f289), (295, f295), (300, f300), (312, f312), (318, f318), (322, f322), (326, f326), (330, f330), (336, f336), (340, f340), (348, f348), (352, f352), (358, f358), (363, f363), (367, f367), (372, f372), (378, f378), (385, f385), (389, f389), (393, f393), (408, f408), (416, f416), (427, f427), (431, f431), (435, f435), (442, f442), (446, f446), (451, f451)]
theorem a22 : ∀ p ∈ l22, funsOf Tryz.prog (fun _ => []) p.1 = some p.2 := (List.forall_mem_cons.2 ⟨c281, (List.forall_mem_cons.2 ⟨c285, (List.forall_mem_cons.2 ⟨c289, (List.forall_mem_cons.2 ⟨c295, (List.forall_mem_cons.2 ⟨c300, (List.forall_mem_cons.2 ⟨c312, (List.forall_mem_cons.2 ⟨c318, (List.forall_mem_cons.2 ⟨c322, (List.forall_mem_cons.2 ⟨c326, (List.forall_mem_cons.2 ⟨c330, (List.forall_mem_cons.2 ⟨c336, (List.forall_mem_cons.2 ⟨c340, (List.forall_mem_cons.2 ⟨c348, (List.forall_mem_cons.2 ⟨c352, (List.forall_mem_cons.2 ⟨c358, (List.forall_mem_cons.2 ⟨c363, (List.forall_mem_cons.2 ⟨c367, (List.forall_mem_cons.2 ⟨c372, (List.forall_mem_cons.2 ⟨c378, (List.forall_mem_cons.2 ⟨c385, (List.forall_mem_cons.2 ⟨c389, (List.forall_mem_cons.2 ⟨c393, (List.forall_mem_cons.2 ⟨c408, (List.forall_mem_cons.2 ⟨c416, (List.forall_mem_cons.2 ⟨c427, (List.forall_mem_cons.2 ⟨c431, (List.forall_mem_cons.2 ⟨c435, (List.forall_mem_cons.2 ⟨c442, (List.forall_mem_cons.2 ⟨c446, (List.forall_mem_cons.2 ⟨c451, (fun _ h => absurd h (List.not_mem_nil))⟩)⟩)⟩)⟩)⟩)⟩)⟩)⟩)⟩)⟩)⟩)⟩)⟩)⟩)⟩)⟩)⟩)⟩)⟩)⟩)⟩)⟩)⟩)⟩)⟩)⟩)⟩)⟩)⟩)⟩)
def l23 : List (Nat × LFunc) := [(455, f455)]
theorem a23 : ∀ p ∈ l23, funsOf Tryz.prog (fun _ => []) p.1 = some p.2 := (List.forall_mem_cons.2 ⟨c455, (fun _ h => absurd h (List.not_mem_nil))⟩)
def l2 : List (Nat × LFunc) := l20 ++ l21 ++ l22 ++ l23
theorem a2 : ∀ p ∈ l2, funsOf Tryz.prog (fun _ => []) p.1 = some p.2 := (both2_ (both2_ (both2_ a20 a21) a22) a23)
end Go.Proofs.YtojbggomekgkcaaGreat.C
