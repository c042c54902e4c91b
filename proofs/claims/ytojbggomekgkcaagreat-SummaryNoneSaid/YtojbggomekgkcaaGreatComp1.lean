import Derived.Test.YtojbggomekgkcaaGreatEvD
import Derived.Test.YtojbggomekgkcaaGreatLitA
import Derived.Test.YtojbggomekgkcaaGreatLitB
import Derived.Test.YtojbggomekgkcaaGreatProg
import Derived.KernelRfl
/- What the program's functions compile to: part 1 of 4. -/
namespace Go.Proofs.YtojbggomekgkcaaGreat.C
open Go Go.Ev Go.Proofs
set_option maxRecDepth 100000
theorem both1_ {l m : List (Nat × LFunc)} {Q : Nat × LFunc → Prop} (h : ∀ p ∈ l, Q p) (g : ∀ p ∈ m, Q p) : ∀ p ∈ l ++ m, Q p := fun p hp => (List.mem_append.1 hp).elim (h p) (g p)
theorem c4 : funsOf Tryz.prog (fun _ => []) 4 = some f4 := by kernel_rfl
theorem c8 : funsOf Tryz.prog (fun _ => []) 8 = some f8 := by kernel_rfl
theorem c12 : funsOf Tryz.prog (fun _ => []) 12 = some f12 := by kernel_rfl
theorem c16 : funsOf Tryz.prog (fun _ => []) 16 = some f16 := by kernel_rfl
theorem c20 : funsOf Tryz.prog (fun _ => []) 20 = some f20 := by kernel_rfl
theorem c24 : funsOf Tryz.prog (fun _ => []) 24 = some f24 := by kernel_rfl
theorem c28 : funsOf Tryz.prog (fun _ => []) 28 = some f28 := by kernel_rfl
theorem c32 : funsOf Tryz.prog (fun _ => []) 32 = some f32 := by kernel_rfl
theorem c36 : funsOf Tryz.prog (fun _ => []) 36 = some f36 := by kernel_rfl
theorem c40 : funsOf Tryz.prog (fun _ => []) 40 = some f40 := by kernel_rfl
theorem c44 : funsOf Tryz.prog (fun _ => []) 44 = some f44 := by kernel_rfl
theorem c48 : funsOf Tryz.prog (fun _ => []) 48 = some f48 := by kernel_rfl
theorem c52 : funsOf Tryz.prog (fun _ => []) 52 = some f52 := by kernel_rfl
theorem c56 : funsOf Tryz.prog (fun _ => []) 56 = some f56 := by kernel_rfl
theorem c60 : funsOf Tryz.prog (fun _ => []) 60 = some f60 := by kernel_rfl
theorem c64 : funsOf Tryz.prog (fun _ => []) 64 = some f64 := by kernel_rfl
theorem c69 : funsOf Tryz.prog (fun _ => []) 69 = some f69 := by kernel_rfl
theorem c74 : funsOf Tryz.prog (fun _ => []) 74 = some f74 := by kernel_rfl
theorem c78 : funsOf Tryz.prog (fun _ => []) 78 = some f78 := by kernel_rfl
theorem c82 : funsOf Tryz.prog (fun _ => []) 82 = some f82 := by kernel_rfl
theorem c86 : funsOf Tryz.prog (fun _ => []) 86 = some f86 := by kernel_rfl
theorem c92 : funsOf Tryz.prog (fun _ => []) 92 = some f92 := by kernel_rfl
theorem c96 : funsOf Tryz.prog (fun _ => []) 96 = some f96 := by kernel_rfl
theorem c101 : funsOf Tryz.prog (fun _ => []) 101 = some f101 := by kernel_rfl
theorem c105 : funsOf Tryz.prog (fun _ => []) 105 = some f105 := by kernel_rfl
theorem c109 : funsOf Tryz.prog (fun _ => []) 109 = some f109 := by kernel_rfl
theorem c113 : funsOf Tryz.prog (fun _ => []) 113 = some f113 := by kernel_rfl
theorem c117 : funsOf Tryz.prog (fun _ => []) 117 = some f117 := by kernel_rfl
theorem c121 : funsOf Tryz.prog (fun _ => []) 121 = some f121 := by kernel_rfl
theorem c126 : funsOf Tryz.prog (fun _ => []) 126 = some f126 := by kernel_rfl
theorem c130 : funsOf Tryz.prog (fun _ => []) 130 = some f130 := by kernel_rfl
theorem c134 : funsOf Tryz.prog (fun _ => []) 134 = some f134 := by kernel_rfl
theorem c139 : funsOf Tryz.prog (fun _ => []) 139 = some f139 := by kernel_rfl
theorem c143 : funsOf Tryz.prog (fun _ => []) 143 = some f143 := by kernel_rfl
theorem c147 : funsOf Tryz.prog (fun _ => []) 147 = some f147 := by kernel_rfl
theorem c155 : funsOf Tryz.prog (fun _ => []) 155 = some f155 := by kernel_rfl
theorem c159 : funsOf Tryz.prog (fun _ => []) 159 = some f159 := by kernel_rfl
theorem c163 : funsOf Tryz.prog (fun _ => []) 163 = some f163 := by kernel_rfl
theorem c168 : funsOf Tryz.prog (fun _ => []) 168 = some f168 := by kernel_rfl
theorem c172 : funsOf Tryz.prog (fun _ => []) 172 = some f172 := by kernel_rfl
theorem c176 : funsOf Tryz.prog (fun _ => []) 176 = some f176 := by kernel_rfl
theorem c180 : funsOf Tryz.prog (fun _ => []) 180 = some f180 := by kernel_rfl
theorem c184 : funsOf Tryz.prog (fun _ => []) 184 = some f184 := by kernel_rfl
theorem c188 : funsOf Tryz.prog (fun _ => []) 188 = some f188 := by kernel_rfl
theorem c195 : funsOf Tryz.prog (fun _ => []) 195 = some f195 := by kernel_rfl
theorem c199 : funsOf Tryz.prog (fun _ => []) 199 = some f199 := by kernel_rfl
theorem c203 : funsOf Tryz.prog (fun _ => []) 203 = some f203 := by kernel_rfl
theorem c207 : funsOf Tryz.prog (fun _ => []) 207 = some f207 := by kernel_rfl
theorem c211 : funsOf Tryz.prog (fun _ => []) 211 = some f211 := by kernel_rfl
theorem c215 : funsOf Tryz.prog (fun _ => []) 215 = some f215 := by kernel_rfl
theorem c219 : funsOf Tryz.prog (fun _ => []) 219 = some f219 := by kernel_rfl
theorem c223 : funsOf Tryz.prog (fun _ => []) 223 = some f223 := by kernel_rfl
theorem c227 : funsOf Tryz.prog (fun _ => []) 227 = some f227 := by kernel_rfl
theorem c231 : funsOf Tryz.prog (fun _ => []) 231 = some f231 := by kernel_rfl
theorem c237 : funsOf Tryz.prog (fun _ => []) 237 = some f237 := by kernel_rfl
theorem c241 : funsOf Tryz.prog (fun _ => []) 241 = some f241 := by kernel_rfl
theorem c245 : funsOf Tryz.prog (fun _ => []) 245 = some f245 := by kernel_rfl
theorem c262 : funsOf Tryz.prog (fun _ => []) 262 = some f262 := by kernel_rfl
theorem c268 : funsOf Tryz.prog (fun _ => []) 268 = some f268 := by kernel_rfl
theorem c275 : funsOf Tryz.prog (fun _ => []) 275 = some f275 := by kernel_rfl
theorem c280 : funsOf Tryz.prog (fun _ => []) 280 = some f280 := by kernel_rfl
theorem c284 : funsOf Tryz.prog (fun _ => []) 284 = some f284 := by kernel_rfl
theorem c288 : funsOf Tryz.prog (fun _ => []) 288 = some f288 := by kernel_rfl
theorem c294 : funsOf Tryz.prog (fun _ => []) 294 = some f294 := by kernel_rfl
theorem c299 : funsOf Tryz.prog (fun _ => []) 299 = some f299 := by kernel_rfl
theorem c311 : funsOf Tryz.prog (fun _ => []) 311 = some f311 := by kernel_rfl
theorem c317 : funsOf Tryz.prog (fun _ => []) 317 = some f317 := by kernel_rfl
theorem c321 : funsOf Tryz.prog (fun _ => []) 321 = some f321 := by kernel_rfl
theorem c325 : funsOf Tryz.prog (fun _ => []) 325 = some f325 := by kernel_rfl
theorem c329 : funsOf Tryz.prog (fun _ => []) 329 = some f329 := by kernel_rfl
theorem c335 : funsOf Tryz.prog (fun _ => []) 335 = some f335 := by kernel_rfl
theorem c339 : funsOf Tryz.prog (fun _ => []) 339 = some f339 := by kernel_rfl
theorem c347 : funsOf Tryz.prog (fun _ => []) 347 = some f347 := by kernel_rfl
theorem c351 : funsOf Tryz.prog (fun _ => []) 351 = some f351 := by kernel_rfl
theorem c357 : funsOf Tryz.prog (fun _ => []) 357 = some f357 := by kernel_rfl
theorem c362 : funsOf Tryz.prog (fun _ => []) 362 = some f362 := by kernel_rfl
theorem c366 : funsOf Tryz.prog (fun _ => []) 366 = some f366 := by kernel_rfl
theorem c370 : funsOf Tryz.prog (fun _ => []) 370 = some f370 := by kernel_rfl
theorem c375 : funsOf Tryz.prog (fun _ => []) 375 = some f375 := by kernel_rfl
theorem c384 : funsOf Tryz.prog (fun _ => []) 384 = some f384 := by kernel_rfl
theorem c388 : funsOf Tryz.prog (fun _ => []) 388 = some f388 := by kernel_rfl
theorem c392 : funsOf Tryz.prog (fun _ => []) 392 = some f392 := by kernel_rfl
theorem c407 : funsOf Tryz.prog (fun _ => []) 407 = some f407 := by kernel_rfl
theorem c415 : funsOf Tryz.prog (fun _ => []) 415 = some f415 := by kernel_rfl
theorem c426 : funsOf Tryz.prog (fun _ => []) 426 = some f426 := by kernel_rfl
theorem c430 : funsOf Tryz.prog (fun _ => []) 430 = some f430 := by kernel_rfl
theorem c434 : funsOf Tryz.prog (fun _ => []) 434 = some f434 := by kernel_rfl
theorem c441 : funsOf Tryz.prog (fun _ => []) 441 = some f441 := by kernel_rfl
theorem c445 : funsOf Tryz.prog (fun _ => []) 445 = some f445 := by kernel_rfl
theorem c450 : funsOf Tryz.prog (fun _ => []) 450 = some f450 := by kernel_rfl
theorem c454 : funsOf Tryz.prog (fun _ => []) 454 = some f454 := by kernel_rfl
def l10 : List (Nat × LFunc) := [(4, f4), (8, f8), (12, f12), (16, f16), (20, f20), (24, f24), (28, f28), (32, f32), (36, f36), (40, f40), (44, f44), (48, f48), (52, f52), (56, f56), (60, f60), (64, f64), (69, f69), (74, f74), (78, f78), (82, f82), (86, f86), (92, f92), (96, f96), (101, f101), (105, f105), (109, f109), (113, f113), (117, f117), (121, f121), (126, f126)]
theorem a10 : ∀ p ∈ l10, funsOf Tryz.prog (fun _ => []) p.1 = some p.2 := (List.forall_mem_cons.2 ⟨c4, (List.forall_mem_cons.2 ⟨c8, (List.forall_mem_cons.2 ⟨c12, (List.forall_mem_cons.2 ⟨c16, (List.forall_mem_cons.2 ⟨c20, (List.forall_mem_cons.2 ⟨c24, (List.forall_mem_cons.2 ⟨c28, (List.forall_mem_cons.2 ⟨c32, (List.forall_mem_cons.2 ⟨c36, (List.forall_mem_cons.2 ⟨c40, (List.forall_mem_cons.2 ⟨c44, (List.forall_mem_cons.2 ⟨c48, (List.forall_mem_cons.2 ⟨c52, (List.forall_mem_cons.2 ⟨c56, (List.forall_mem_cons.2 ⟨c60, (List.forall_mem_cons.2 ⟨c64, (List.forall_mem_cons.2 ⟨c69, (List.forall_mem_cons.2 ⟨c74, (List.forall_mem_cons.2 ⟨c78, (List.forall_mem_cons.2 ⟨c82, (List.forall_mem_cons.2 ⟨c86, (List.forall_mem_cons.2 ⟨c92, (List.forall_mem_cons.2 ⟨c96, (List.forall_mem_cons.2 ⟨c101, (List.forall_mem_cons.2 ⟨c105, (List.forall_mem_cons.2 ⟨c109, (List.forall_mem_cons.2 ⟨c113, (List.forall_mem_cons.2 ⟨c117, (List.forall_mem_cons.2 ⟨c121, (List.forall_mem_cons.2 ⟨c126, (fun _ h => absurd h (List.not_mem_nil))⟩)⟩)⟩)⟩)⟩)⟩)⟩)⟩)⟩)⟩)⟩)⟩)⟩)⟩)⟩)⟩)⟩)⟩)⟩)⟩)⟩)⟩)⟩)⟩)⟩)⟩)⟩)⟩)⟩)⟩)
def l11 : List (Nat × LFunc) := [(130, f130), (134, f134), (139, f139), (143, f143), (147, f147), (155, f155), (159, f159), (163, f163), (168, f168), (172, f172), (176, f176), (180, f180), (184, f184), (188, f188), (195, f195), (199, f199), (203, f203), (207, f207), (211, f211), (215, f215), (219, f219), (223, f223), (227, f227), (231, f231), (237, f237), (241, f241), (245, f245), (262, f262), (268, f268), (275, f275)]
theorem a11 : ∀ p ∈ l11, funsOf Tryz.prog (fun _ => []) p.1 = some p.2 := (List.forall_mem_cons.2 ⟨c130, (List.forall_mem_cons.2 ⟨c134, (List.forall_mem_cons.2 ⟨c139, (List.forall_mem_cons.2 ⟨c143, (List.forall_mem_cons.2 ⟨c147, (List.forall_mem_cons.2 ⟨c155, (List.forall_mem_cons.2 ⟨c159, (List.forall_mem_cons.2 ⟨c163, (List.forall_mem_cons.2 ⟨c168, (List.forall_mem_cons.2 ⟨c172, (List.forall_mem_cons.2 ⟨c176, (List.forall_mem_cons.2 ⟨c180, (List.forall_mem_cons.2 ⟨c184, (List.forall_mem_cons.2 ⟨c188, (List.forall_mem_cons.2 ⟨c195, (List.forall_mem_cons.2 ⟨c199, (List.forall_mem_cons.2 ⟨c203, (List.forall_mem_cons.2 ⟨c207, (List.forall_mem_cons.2 ⟨c211, (List.forall_mem_cons.2 ⟨c215, (List.forall_mem_cons.2 ⟨c219, (List.forall_mem_cons.2 ⟨c223, (List.forall_mem_cons.2 ⟨c227, (List.forall_mem_cons.2 ⟨c231, (List.forall_mem_cons.2 ⟨c237, (List.forall_mem_cons.2 ⟨c241, (List.forall_mem_cons.2 ⟨c245, (List.forall_mem_cons.2 ⟨c262, (List.forall_mem_cons.2 ⟨c268, (List.forall_mem_cons.2 ⟨c275, (fun _ h => absurd h (List.not_mem_nil))⟩)⟩)⟩)⟩)⟩)⟩)⟩)⟩)⟩)⟩)⟩)⟩)⟩)⟩)⟩)⟩)⟩)⟩)⟩)⟩)⟩)⟩)⟩)⟩)⟩)⟩)⟩)⟩)⟩)⟩)
def l12 : List (Nat × LFunc) := [(280, f280), (284, f284), (288, f288), (294, f294), (299, f299), (311, f311), (317, f317), (321, f321), (325, f325), (329, f329), (335, f335), (339, f339), (347, f347), (351, f351), (357, f357), (362, f362), (366, f366), (370, f370), (375, f375), (384, f384), (388, f388), (392, f392), (407, f407), (415, f415), (426, f426), (430, f430), (434, f434), (441, f441), (445, f445), (450, f450)]
theorem a12 : ∀ p ∈ l12, funsOf Tryz.prog (fun _ => []) p.1 = some p.2 := (List.forall_mem_cons.2 ⟨c280, (List.forall_mem_cons.2 ⟨c284, (List.forall_mem_cons.2 ⟨c288, (List.forall_mem_cons.2 ⟨c294, (List.forall_mem_cons.2 ⟨c299, (List.forall_mem_cons.2 ⟨c311, (List.forall_mem_cons.2 ⟨c317, (List.forall_mem_cons.2 ⟨c321, (List.forall_mem_cons.2 ⟨c325, (List.forall_mem_cons.2 ⟨c329, (List.forall_mem_cons.2 ⟨c335, (List.forall_mem_cons.2 ⟨c339, (List.forall_mem_cons.2 ⟨c347, (List.forall_mem_cons.2 ⟨c351, (List.forall_mem_cons.2 ⟨c357, (List.forall_mem_cons.2 ⟨c362, (List.forall_mem_cons.2 ⟨c366, (List.forall_mem_cons.2 ⟨c370, (List.forall_mem_cons.2 ⟨c375, (List.forall_mem_cons.2 ⟨c384, (List.forall_mem_cons.2 ⟨c388, (List.forall_mem_cons.2 ⟨c392, (List.forall_mem_cons.2 ⟨c407, (List.forall_mem_cons.2 ⟨c415, (List.forall_mem_cons.2 ⟨c426, (List.forall_mem_cons.2 ⟨c430, (List.forall_mem_cons.2 ⟨c434, (List.forall_mem_cons.2 ⟨c441, (List.forall_mem_cons.2 ⟨c445, (List.forall_mem_cons.2 ⟨c450, (fun _ h => absurd h (List.not_mem_nil))⟩)⟩)⟩)⟩)⟩)⟩)⟩)⟩)⟩)⟩)⟩)⟩)⟩)⟩)⟩)⟩)⟩)⟩)⟩)⟩)⟩)⟩)⟩)⟩)⟩)⟩)⟩)⟩)⟩)⟩)
def l13 : List (Nat × LFunc) := [(454, f454)]
theorem a13 : ∀ p ∈ l13, funsOf Tryz.prog (fun _ => []) p.1 = some p.2 := (List.forall_mem_cons.2 ⟨c454, (fun _ h => absurd h (List.not_mem_nil))⟩)
def l1 : List (Nat × LFunc) := l10 ++ l11 ++ l12 ++ l13
theorem a1 : ∀ p ∈ l1, funsOf Tryz.prog (fun _ => []) p.1 = some p.2 := (both1_ (both1_ (both1_ a10 a11) a12) a13)
end Go.Proofs.YtojbggomekgkcaaGreat.C
