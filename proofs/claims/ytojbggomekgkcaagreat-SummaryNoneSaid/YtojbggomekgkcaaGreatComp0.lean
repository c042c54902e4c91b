import Derived.Test.YtojbggomekgkcaaGreatEvD
import Derived.Test.YtojbggomekgkcaaGreatLitA
import Derived.Test.YtojbggomekgkcaaGreatLitB
import Derived.Test.YtojbggomekgkcaaGreatProg
import Derived.KernelRfl
/- What the program's functions compile to: part 0 of 4. -/
namespace Go.Proofs.YtojbggomekgkcaaGreat.C
open Go Go.Ev Go.Proofs
set_option maxRecDepth 100000
theorem both0_ {l m : List (Nat × LFunc)} {Q : Nat × LFunc → Prop} (h : ∀ p ∈ l, Q p) (g : ∀ p ∈ m, Q p) : ∀ p ∈ l ++ m, Q p := fun p hp => (List.mem_append.1 hp).elim (h p) (g p)
theorem c3 : funsOf Tryz.prog (fun _ => []) 3 = some f3 := by kernel_rfl
theorem c7 : funsOf Tryz.prog (fun _ => []) 7 = some f7 := by kernel_rfl
theorem c11 : funsOf Tryz.prog (fun _ => []) 11 = some f11 := by kernel_rfl
theorem c15 : funsOf Tryz.prog (fun _ => []) 15 = some f15 := by kernel_rfl
theorem c19 : funsOf Tryz.prog (fun _ => []) 19 = some f19 := by kernel_rfl
theorem c23 : funsOf Tryz.prog (fun _ => []) 23 = some f23 := by kernel_rfl
theorem c27 : funsOf Tryz.prog (fun _ => []) 27 = some f27 := by kernel_rfl
theorem c31 : funsOf Tryz.prog (fun _ => []) 31 = some f31 := by kernel_rfl
theorem c35 : funsOf Tryz.prog (fun _ => []) 35 = some f35 := by kernel_rfl
theorem c39 : funsOf Tryz.prog (fun _ => []) 39 = some f39 := by kernel_rfl
theorem c43 : funsOf Tryz.prog (fun _ => []) 43 = some f43 := by kernel_rfl
theorem c47 : funsOf Tryz.prog (fun _ => []) 47 = some f47 := by kernel_rfl
theorem c51 : funsOf Tryz.prog (fun _ => []) 51 = some f51 := by kernel_rfl
theorem c55 : funsOf Tryz.prog (fun _ => []) 55 = some f55 := by kernel_rfl
theorem c59 : funsOf Tryz.prog (fun _ => []) 59 = some f59 := by kernel_rfl
theorem c63 : funsOf Tryz.prog (fun _ => []) 63 = some f63 := by kernel_rfl
theorem c67 : funsOf Tryz.prog (fun _ => []) 67 = some f67 := by kernel_rfl
theorem c73 : funsOf Tryz.prog (fun _ => []) 73 = some f73 := by kernel_rfl
theorem c77 : funsOf Tryz.prog (fun _ => []) 77 = some f77 := by kernel_rfl
theorem c81 : funsOf Tryz.prog (fun _ => []) 81 = some f81 := by kernel_rfl
theorem c85 : funsOf Tryz.prog (fun _ => []) 85 = some f85 := by kernel_rfl
theorem c91 : funsOf Tryz.prog (fun _ => []) 91 = some f91 := by kernel_rfl
theorem c95 : funsOf Tryz.prog (fun _ => []) 95 = some f95 := by kernel_rfl
theorem c100 : funsOf Tryz.prog (fun _ => []) 100 = some f100 := by kernel_rfl
theorem c104 : funsOf Tryz.prog (fun _ => []) 104 = some f104 := by kernel_rfl
theorem c108 : funsOf Tryz.prog (fun _ => []) 108 = some f108 := by kernel_rfl
theorem c112 : funsOf Tryz.prog (fun _ => []) 112 = some f112 := by kernel_rfl
theorem c116 : funsOf Tryz.prog (fun _ => []) 116 = some f116 := by kernel_rfl
theorem c120 : funsOf Tryz.prog (fun _ => []) 120 = some f120 := by kernel_rfl
theorem c125 : funsOf Tryz.prog (fun _ => []) 125 = some f125 := by kernel_rfl
theorem c129 : funsOf Tryz.prog (fun _ => []) 129 = some f129 := by kernel_rfl
theorem c133 : funsOf Tryz.prog (fun _ => []) 133 = some f133 := by kernel_rfl
theorem c138 : funsOf Tryz.prog (fun _ => []) 138 = some f138 := by kernel_rfl
theorem c142 : funsOf Tryz.prog (fun _ => []) 142 = some f142 := by kernel_rfl
theorem c146 : funsOf Tryz.prog (fun _ => []) 146 = some f146 := by kernel_rfl
theorem c154 : funsOf Tryz.prog (fun _ => []) 154 = some f154 := by kernel_rfl
theorem c158 : funsOf Tryz.prog (fun _ => []) 158 = some f158 := by kernel_rfl
theorem c162 : funsOf Tryz.prog (fun _ => []) 162 = some f162 := by kernel_rfl
theorem c167 : funsOf Tryz.prog (fun _ => []) 167 = some f167 := by kernel_rfl
theorem c171 : funsOf Tryz.prog (fun _ => []) 171 = some f171 := by kernel_rfl
theorem c175 : funsOf Tryz.prog (fun _ => []) 175 = some f175 := by kernel_rfl
theorem c179 : funsOf Tryz.prog (fun _ => []) 179 = some f179 := by kernel_rfl
theorem c183 : funsOf Tryz.prog (fun _ => []) 183 = some f183 := by kernel_rfl
theorem c187 : funsOf Tryz.prog (fun _ => []) 187 = some f187 := by kernel_rfl
theorem c194 : funsOf Tryz.prog (fun _ => []) 194 = some f194 := by kernel_rfl
theorem c198 : funsOf Tryz.prog (fun _ => []) 198 = some f198 := by kernel_rfl
theorem c202 : funsOf Tryz.prog (fun _ => []) 202 = some f202 := by kernel_rfl
theorem c206 : funsOf Tryz.prog (fun _ => []) 206 = some f206 := by kernel_rfl
theorem c210 : funsOf Tryz.prog (fun _ => []) 210 = some f210 := by kernel_rfl
theorem c214 : funsOf Tryz.prog (fun _ => []) 214 = some f214 := by kernel_rfl
theorem c218 : funsOf Tryz.prog (fun _ => []) 218 = some f218 := by kernel_rfl
theorem c222 : funsOf Tryz.prog (fun _ => []) 222 = some f222 := by kernel_rfl
theorem c226 : funsOf Tryz.prog (fun _ => []) 226 = some f226 := by kernel_rfl
theorem c230 : funsOf Tryz.prog (fun _ => []) 230 = some f230 := by kernel_rfl
theorem c234 : funsOf Tryz.prog (fun _ => []) 234 = some f234 := by kernel_rfl
theorem c240 : funsOf Tryz.prog (fun _ => []) 240 = some f240 := by kernel_rfl
theorem c244 : funsOf Tryz.prog (fun _ => []) 244 = some f244 := by kernel_rfl
theorem c256 : funsOf Tryz.prog (fun _ => []) 256 = some f256 := by kernel_rfl
theorem c267 : funsOf Tryz.prog (fun _ => []) 267 = some f267 := by kernel_rfl
theorem c273 : funsOf Tryz.prog (fun _ => []) 273 = some f273 := by kernel_rfl
theorem c279 : funsOf Tryz.prog (fun _ => []) 279 = some f279 := by kernel_rfl
theorem c283 : funsOf Tryz.prog (fun _ => []) 283 = some f283 := by kernel_rfl
theorem c287 : funsOf Tryz.prog (fun _ => []) 287 = some f287 := by kernel_rfl
theorem c292 : funsOf Tryz.prog (fun _ => []) 292 = some f292 := by kernel_rfl
theorem c298 : funsOf Tryz.prog (fun _ => []) 298 = some f298 := by kernel_rfl
theorem c302 : funsOf Tryz.prog (fun _ => []) 302 = some f302 := by kernel_rfl
theorem c316 : funsOf Tryz.prog (fun _ => []) 316 = some f316 := by kernel_rfl
theorem c320 : funsOf Tryz.prog (fun _ => []) 320 = some f320 := by kernel_rfl
theorem c324 : funsOf Tryz.prog (fun _ => []) 324 = some f324 := by kernel_rfl
theorem c328 : funsOf Tryz.prog (fun _ => []) 328 = some f328 := by kernel_rfl
theorem c334 : funsOf Tryz.prog (fun _ => []) 334 = some f334 := by kernel_rfl
theorem c338 : funsOf Tryz.prog (fun _ => []) 338 = some f338 := by kernel_rfl
theorem c346 : funsOf Tryz.prog (fun _ => []) 346 = some f346 := by kernel_rfl
theorem c350 : funsOf Tryz.prog (fun _ => []) 350 = some f350 := by kernel_rfl
theorem c354 : funsOf Tryz.prog (fun _ => []) 354 = some f354 := by kernel_rfl
theorem c361 : funsOf Tryz.prog (fun _ => []) 361 = some f361 := by kernel_rfl
theorem c365 : funsOf Tryz.prog (fun _ => []) 365 = some f365 := by kernel_rfl
theorem c369 : funsOf Tryz.prog (fun _ => []) 369 = some f369 := by kernel_rfl
theorem c374 : funsOf Tryz.prog (fun _ => []) 374 = some f374 := by kernel_rfl
theorem c383 : funsOf Tryz.prog (fun _ => []) 383 = some f383 := by kernel_rfl
theorem c387 : funsOf Tryz.prog (fun _ => []) 387 = some f387 := by kernel_rfl
theorem c391 : funsOf Tryz.prog (fun _ => []) 391 = some f391 := by kernel_rfl
theorem c397 : funsOf Tryz.prog (fun _ => []) 397 = some f397 := by kernel_rfl
theorem c414 : funsOf Tryz.prog (fun _ => []) 414 = some f414 := by kernel_rfl
theorem c425 : funsOf Tryz.prog (fun _ => []) 425 = some f425 := by kernel_rfl
theorem c429 : funsOf Tryz.prog (fun _ => []) 429 = some f429 := by kernel_rfl
theorem c433 : funsOf Tryz.prog (fun _ => []) 433 = some f433 := by kernel_rfl
theorem c440 : funsOf Tryz.prog (fun _ => []) 440 = some f440 := by kernel_rfl
theorem c444 : funsOf Tryz.prog (fun _ => []) 444 = some f444 := by kernel_rfl
theorem c449 : funsOf Tryz.prog (fun _ => []) 449 = some f449 := by kernel_rfl
theorem c453 : funsOf Tryz.prog (fun _ => []) 453 = some f453 := by kernel_rfl
def l00 : List (Nat × LFunc) := [(3, f3), (7, f7), (11, f11), (15, f15), (19, f19), (23, f23), (27, f27), (31, f31), (35, f35), (39, f39), (43, f43), (47, f47), (51, f51), (55, f55), (59, f59), (63, f63), (67, f67), (73, f73), (77, f77), (81, f81), (85, f85), (91, f91), (95, f95), (100, f100), (104, f104), (108, f108), (112, f112), (116, f116), (120, f120), (125, f125)]
theorem a00 : ∀ p ∈ l00, funsOf Tryz.prog (fun _ => []) p.1 = some p.2 := (List.forall_mem_cons.2 ⟨c3, (List.forall_mem_cons.2 ⟨c7, (List.forall_mem_cons.2 ⟨c11, (List.forall_mem_cons.2 ⟨c15, (List.forall_mem_cons.2 ⟨c19, (List.forall_mem_cons.2 ⟨c23, (List.forall_mem_cons.2 ⟨c27, (List.forall_mem_cons.2 ⟨c31, (List.forall_mem_cons.2 ⟨c35, (List.forall_mem_cons.2 ⟨c39, (List.forall_mem_cons.2 ⟨c43, (List.forall_mem_cons.2 ⟨c47, (List.forall_mem_cons.2 ⟨c51, (List.forall_mem_cons.2 ⟨c55, (List.forall_mem_cons.2 ⟨c59, (List.forall_mem_cons.2 ⟨c63, (List.forall_mem_cons.2 ⟨c67, (List.forall_mem_cons.2 ⟨c73, (List.forall_mem_cons.2 ⟨c77, (List.forall_mem_cons.2 ⟨c81, (List.forall_mem_cons.2 ⟨c85, (List.forall_mem_cons.2 ⟨c91, (List.forall_mem_cons.2 ⟨c95, (List.forall_mem_cons.2 ⟨c100, (List.forall_mem_cons.2 ⟨c104, (List.forall_mem_cons.2 ⟨c108, (List.forall_mem_cons.2 ⟨c112, (List.forall_mem_cons.2 ⟨c116, (List.forall_mem_cons.2 ⟨c120, (List.forall_mem_cons.2 ⟨c125, (fun _ h => absurd h (List.not_mem_nil))⟩)⟩)⟩)⟩)⟩)⟩)⟩)⟩)⟩)⟩)⟩)⟩)⟩)⟩)⟩)⟩)⟩)⟩)⟩)⟩)⟩)⟩)⟩)⟩)⟩)⟩)⟩)⟩)⟩)⟩)
def l01 : List (Nat × LFunc) := [(129, f129), (133, f133), (138, f138), (142, f142), (146, f146), (154, f154), (158, f158), (162, f162), (167, f167), (171, f171), (175, f175), (179, f179), (183, f183), (187, f187), (194, f194), (198, f198), (202, f202), (206, f206), (210, f210), (214, f214), (218, f218), (222, f222), (226, f226), (230, f230), (234, f234), (240, f240), (244, f244), (256, f256), (267, f267), (273, f273)]
theorem a01 : ∀ p ∈ l01, funsOf Tryz.prog (fun _ => []) p.1 = some p.2 := (List.forall_mem_cons.2 ⟨c129, (List.forall_mem_cons.2 ⟨c133, (List.forall_mem_cons.2 ⟨c138, (List.forall_mem_cons.2 ⟨c142, (List.forall_mem_cons.2 ⟨c146, (List.forall_mem_cons.2 ⟨c154, (List.forall_mem_cons.2 ⟨c158, (List.forall_mem_cons.2 ⟨c162, (List.forall_mem_cons.2 ⟨c167, (List.forall_mem_cons.2 ⟨c171, (List.forall_mem_cons.2 ⟨c175, (List.forall_mem_cons.2 ⟨c179, (List.forall_mem_cons.2 ⟨c183, (List.forall_mem_cons.2 ⟨c187, (List.forall_mem_cons.2 ⟨c194, (List.forall_mem_cons.2 ⟨c198, (List.forall_mem_cons.2 ⟨c202, (List.forall_mem_cons.2 ⟨c206, (List.forall_mem_cons.2 ⟨c210, (List.forall_mem_cons.2 ⟨c214, (List.forall_mem_cons.2 ⟨c218, (List.forall_mem_cons.2 ⟨c222, (List.forall_mem_cons.2 ⟨c226, (List.forall_mem_cons.2 ⟨c230, (List.forall_mem_cons.2 ⟨c234, (List.forall_mem_cons.2 ⟨c240, (List.forall_mem_cons.2 ⟨c244, (List.forall_mem_cons.2 ⟨c256, (List.forall_mem_cons.2 ⟨c267, (List.forall_mem_cons.2 ⟨c273, (fun _ h => absurd h (List.not_mem_nil))⟩)⟩)⟩)⟩)⟩)⟩)⟩)⟩)⟩)⟩)⟩)⟩)⟩)⟩)⟩)⟩)⟩)⟩)⟩)⟩)⟩)⟩)⟩)⟩)⟩)⟩)⟩)⟩)⟩)⟩)
def l02 : List (Nat × LFunc) := [(279, f279), (283, f283), (287, f287), (292, f292), (298, f298), (302, f302), (316, f316), (320, f320), (324, f324), (328, f328), (334, f334), (338, f338), (346, f346), (350, f350), (354, f354), (361, f361), (365, f365), (369, f369), (374, f374), (383, f383), (387, f387), (391, f391), (397, f397), (414, f414), (425, f425), (429, f429), (433, f433), (440, f440), (444, f444), (449, f449)]
theorem a02 : ∀ p ∈ l02, funsOf Tryz.prog (fun _ => []) p.1 = some p.2 := (List.forall_mem_cons.2 ⟨c279, (List.forall_mem_cons.2 ⟨c283, (List.forall_mem_cons.2 ⟨c287, (List.forall_mem_cons.2 ⟨c292, (List.forall_mem_cons.2 ⟨c298, (List.forall_mem_cons.2 ⟨c302, (List.forall_mem_cons.2 ⟨c316, (List.forall_mem_cons.2 ⟨c320, (List.forall_mem_cons.2 ⟨c324, (List.forall_mem_cons.2 ⟨c328, (List.forall_mem_cons.2 ⟨c334, (List.forall_mem_cons.2 ⟨c338, (List.forall_mem_cons.2 ⟨c346, (List.forall_mem_cons.2 ⟨c350, (List.forall_mem_cons.2 ⟨c354, (List.forall_mem_cons.2 ⟨c361, (List.forall_mem_cons.2 ⟨c365, (List.forall_mem_cons.2 ⟨c369, (List.forall_mem_cons.2 ⟨c374, (List.forall_mem_cons.2 ⟨c383, (List.forall_mem_cons.2 ⟨c387, (List.forall_mem_cons.2 ⟨c391, (List.forall_mem_cons.2 ⟨c397, (List.forall_mem_cons.2 ⟨c414, (List.forall_mem_cons.2 ⟨c425, (List.forall_mem_cons.2 ⟨c429, (List.forall_mem_cons.2 ⟨c433, (List.forall_mem_cons.2 ⟨c440, (List.forall_mem_cons.2 ⟨c444, (List.forall_mem_cons.2 ⟨c449, (fun _ h => absurd h (List.not_mem_nil))⟩)⟩)⟩)⟩)⟩)⟩)⟩)⟩)⟩)⟩)⟩)⟩)⟩)⟩)⟩)⟩)⟩)⟩)⟩)⟩)⟩)⟩)⟩)⟩)⟩)⟩)⟩)⟩)⟩)⟩)
def l03 : List (Nat × LFunc) := [(453, f453)]
theorem a03 : ∀ p ∈ l03, funsOf Tryz.prog (fun _ => []) p.1 = some p.2 := (List.forall_mem_cons.2 ⟨c453, (fun _ h => absurd h (List.not_mem_nil))⟩)
def l0 : List (Nat × LFunc) := l00 ++ l01 ++ l02 ++ l03
theorem a0 : ∀ p ∈ l0, funsOf Tryz.prog (fun _ => []) p.1 = some p.2 := (both0_ (both0_ (both0_ a00 a01) a02) a03)
end Go.Proofs.YtojbggomekgkcaaGreat.C
