import Derived.Test.YtojbggomekgkcaaGreatEvD
import Derived.Test.YtojbggomekgkcaaGreatLitA
import Derived.Test.YtojbggomekgkcaaGreatLitB
import Derived.Test.YtojbggomekgkcaaGreatProg
import Derived.KernelRfl
/- What the program's functions compile to: part 3 of 4. -/
namespace Go.Proofs.YtojbggomekgkcaaGreat.C
open Go Go.Ev Go.Proofs
set_option maxRecDepth 100000
theorem both3_ {l m : List (Nat × LFunc)} {Q : Nat × LFunc → Prop} (h : ∀ p ∈ l, Q p) (g : ∀ p ∈ m, Q p) : ∀ p ∈ l ++ m, Q p := fun p hp => (List.mem_append.1 hp).elim (h p) (g p)
theorem c6 : funsOf Tryz.prog (fun _ => []) 6 = some f6 := by kernel_rfl
theorem c10 : funsOf Tryz.prog (fun _ => []) 10 = some f10 := by kernel_rfl
theorem c14 : funsOf Tryz.prog (fun _ => []) 14 = some f14 := by kernel_rfl
theorem c18 : funsOf Tryz.prog (fun _ => []) 18 = some f18 := by kernel_rfl
theorem c22 : funsOf Tryz.prog (fun _ => []) 22 = some f22 := by kernel_rfl
theorem c26 : funsOf Tryz.prog (fun _ => []) 26 = some f26 := by kernel_rfl
theorem c30 : funsOf Tryz.prog (fun _ => []) 30 = some f30 := by kernel_rfl
theorem c34 : funsOf Tryz.prog (fun _ => []) 34 = some f34 := by kernel_rfl
theorem c38 : funsOf Tryz.prog (fun _ => []) 38 = some f38 := by kernel_rfl
theorem c42 : funsOf Tryz.prog (fun _ => []) 42 = some f42 := by kernel_rfl
theorem c46 : funsOf Tryz.prog (fun _ => []) 46 = some f46 := by kernel_rfl
theorem c50 : funsOf Tryz.prog (fun _ => []) 50 = some f50 := by kernel_rfl
theorem c54 : funsOf Tryz.prog (fun _ => []) 54 = some f54 := by kernel_rfl
theorem c58 : funsOf Tryz.prog (fun _ => []) 58 = some f58 := by kernel_rfl
theorem c62 : funsOf Tryz.prog (fun _ => []) 62 = some f62 := by kernel_rfl
theorem c66 : funsOf Tryz.prog (fun _ => []) 66 = some f66 := by kernel_rfl
theorem c72 : funsOf Tryz.prog (fun _ => []) 72 = some f72 := by kernel_rfl
theorem c76 : funsOf Tryz.prog (fun _ => []) 76 = some f76 := by kernel_rfl
theorem c80 : funsOf Tryz.prog (fun _ => []) 80 = some f80 := by kernel_rfl
theorem c84 : funsOf Tryz.prog (fun _ => []) 84 = some f84 := by kernel_rfl
theorem c88 : funsOf Tryz.prog (fun _ => []) 88 = some f88 := by kernel_rfl
theorem c94 : funsOf Tryz.prog (fun _ => []) 94 = some f94 := by kernel_rfl
theorem c98 : funsOf Tryz.prog (fun _ => []) 98 = some f98 := by kernel_rfl
theorem c103 : funsOf Tryz.prog (fun _ => []) 103 = some f103 := by kernel_rfl
theorem c107 : funsOf Tryz.prog (fun _ => []) 107 = some f107 := by kernel_rfl
theorem c111 : funsOf Tryz.prog (fun _ => []) 111 = some f111 := by kernel_rfl
theorem c115 : funsOf Tryz.prog (fun _ => []) 115 = some f115 := by kernel_rfl
theorem c119 : funsOf Tryz.prog (fun _ => []) 119 = some f119 := by kernel_rfl
theorem c124 : funsOf Tryz.prog (fun _ => []) 124 = some f124 := by kernel_rfl
theorem c128 : funsOf Tryz.prog (fun _ => []) 128 = some f128 := by kernel_rfl
theorem c132 : funsOf Tryz.prog (fun _ => []) 132 = some f132 := by kernel_rfl
theorem c137 : funsOf Tryz.prog (fun _ => []) 137 = some f137 := by kernel_rfl
theorem c141 : funsOf Tryz.prog (fun _ => []) 141 = some f141 := by kernel_rfl
theorem c145 : funsOf Tryz.prog (fun _ => []) 145 = some f145 := by kernel_rfl
theorem c149 : funsOf Tryz.prog (fun _ => []) 149 = some f149 := by kernel_rfl
theorem c157 : funsOf Tryz.prog (fun _ => []) 157 = some f157 := by kernel_rfl
theorem c161 : funsOf Tryz.prog (fun _ => []) 161 = some f161 := by kernel_rfl
theorem c166 : funsOf Tryz.prog (fun _ => []) 166 = some f166 := by kernel_rfl
theorem c170 : funsOf Tryz.prog (fun _ => []) 170 = some f170 := by kernel_rfl
theorem c174 : funsOf Tryz.prog (fun _ => []) 174 = some f174 := by kernel_rfl
theorem c178 : funsOf Tryz.prog (fun _ => []) 178 = some f178 := by kernel_rfl
theorem c182 : funsOf Tryz.prog (fun _ => []) 182 = some f182 := by kernel_rfl
theorem c186 : funsOf Tryz.prog (fun _ => []) 186 = some f186 := by kernel_rfl
theorem c190 : funsOf Tryz.prog (fun _ => []) 190 = some f190 := by kernel_rfl
theorem c197 : funsOf Tryz.prog (fun _ => []) 197 = some f197 := by kernel_rfl
theorem c201 : funsOf Tryz.prog (fun _ => []) 201 = some f201 := by kernel_rfl
theorem c205 : funsOf Tryz.prog (fun _ => []) 205 = some f205 := by kernel_rfl
theorem c209 : funsOf Tryz.prog (fun _ => []) 209 = some f209 := by kernel_rfl
theorem c213 : funsOf Tryz.prog (fun _ => []) 213 = some f213 := by kernel_rfl
theorem c217 : funsOf Tryz.prog (fun _ => []) 217 = some f217 := by kernel_rfl
theorem c221 : funsOf Tryz.prog (fun _ => []) 221 = some f221 := by kernel_rfl
theorem c225 : funsOf Tryz.prog (fun _ => []) 225 = some f225 := by kernel_rfl
theorem c229 : funsOf Tryz.prog (fun _ => []) 229 = some f229 := by kernel_rfl
theorem c233 : funsOf Tryz.prog (fun _ => []) 233 = some f233 := by kernel_rfl
theorem c239 : funsOf Tryz.prog (fun _ => []) 239 = some f239 := by kernel_rfl
theorem c243 : funsOf Tryz.prog (fun _ => []) 243 = some f243 := by kernel_rfl
theorem c247 : funsOf Tryz.prog (fun _ => []) 247 = some f247 := by kernel_rfl
theorem c266 : funsOf Tryz.prog (fun _ => []) 266 = some f266 := by kernel_rfl
theorem c270 : funsOf Tryz.prog (fun _ => []) 270 = some f270 := by kernel_rfl
theorem c278 : funsOf Tryz.prog (fun _ => []) 278 = some f278 := by kernel_rfl
theorem c282 : funsOf Tryz.prog (fun _ => []) 282 = some f282 := by kernel_rfl
theorem c286 : funsOf Tryz.prog (fun _ => []) 286 = some f286 := by kernel_rfl
theorem c290 : funsOf Tryz.prog (fun _ => []) 290 = some f290 := by kernel_rfl
theorem c296 : funsOf Tryz.prog (fun _ => []) 296 = some f296 := by kernel_rfl
theorem c301 : funsOf Tryz.prog (fun _ => []) 301 = some f301 := by kernel_rfl
theorem c313 : funsOf Tryz.prog (fun _ => []) 313 = some f313 := by kernel_rfl
theorem c319 : funsOf Tryz.prog (fun _ => []) 319 = some f319 := by kernel_rfl
theorem c323 : funsOf Tryz.prog (fun _ => []) 323 = some f323 := by kernel_rfl
theorem c327 : funsOf Tryz.prog (fun _ => []) 327 = some f327 := by kernel_rfl
theorem c333 : funsOf Tryz.prog (fun _ => []) 333 = some f333 := by kernel_rfl
theorem c337 : funsOf Tryz.prog (fun _ => []) 337 = some f337 := by kernel_rfl
theorem c345 : funsOf Tryz.prog (fun _ => []) 345 = some f345 := by kernel_rfl
theorem c349 : funsOf Tryz.prog (fun _ => []) 349 = some f349 := by kernel_rfl
theorem c353 : funsOf Tryz.prog (fun _ => []) 353 = some f353 := by kernel_rfl
theorem c360 : funsOf Tryz.prog (fun _ => []) 360 = some f360 := by kernel_rfl
theorem c364 : funsOf Tryz.prog (fun _ => []) 364 = some f364 := by kernel_rfl
theorem c368 : funsOf Tryz.prog (fun _ => []) 368 = some f368 := by kernel_rfl
theorem c373 : funsOf Tryz.prog (fun _ => []) 373 = some f373 := by kernel_rfl
theorem c379 : funsOf Tryz.prog (fun _ => []) 379 = some f379 := by kernel_rfl
theorem c386 : funsOf Tryz.prog (fun _ => []) 386 = some f386 := by kernel_rfl
theorem c390 : funsOf Tryz.prog (fun _ => []) 390 = some f390 := by kernel_rfl
theorem c394 : funsOf Tryz.prog (fun _ => []) 394 = some f394 := by kernel_rfl
theorem c413 : funsOf Tryz.prog (fun _ => []) 413 = some f413 := by kernel_rfl
theorem c417 : funsOf Tryz.prog (fun _ => []) 417 = some f417 := by kernel_rfl
theorem c428 : funsOf Tryz.prog (fun _ => []) 428 = some f428 := by kernel_rfl
theorem c432 : funsOf Tryz.prog (fun _ => []) 432 = some f432 := by kernel_rfl
theorem c439 : funsOf Tryz.prog (fun _ => []) 439 = some f439 := by kernel_rfl
theorem c443 : funsOf Tryz.prog (fun _ => []) 443 = some f443 := by kernel_rfl
theorem c447 : funsOf Tryz.prog (fun _ => []) 447 = some f447 := by kernel_rfl
theorem c452 : funsOf Tryz.prog (fun _ => []) 452 = some f452 := by kernel_rfl
def l30 : List (Nat × LFunc) := [(6, f6), (10, f10), (14, f14), (18, f18), (22, f22), (26, f26), (30, f30), (34, f34), (38, f38), (42, f42), (46, f46), (50, f50), (54, f54), (58, f58), (62, f62), (66, f66), (72, f72), (76, f76), (80, f80), (84, f84), (88, f88), (94, f94), (98, f98), (103, f103), (107, f107), (111, f111), (115, f115), (119, f119), (124, f124), (128, f128)]
theorem a30 : ∀ p ∈ l30, funsOf Tryz.prog (fun _ => []) p.1 = some p.2 := (List.forall_mem_cons.2 ⟨c6, (List.forall_mem_cons.2 ⟨c10, (List.forall_mem_cons.2 ⟨c14, (List.forall_mem_cons.2 ⟨c18, (List.forall_mem_cons.2 ⟨c22, (List.forall_mem_cons.2 ⟨c26, (List.forall_mem_cons.2 ⟨c30, (List.forall_mem_cons.2 ⟨c34, (List.forall_mem_cons.2 ⟨c38, (List.forall_mem_cons.2 ⟨c42, (List.forall_mem_cons.2 ⟨c46, (List.forall_mem_cons.2 ⟨c50, (List.forall_mem_cons.2 ⟨c54, (List.forall_mem_cons.2 ⟨c58, (List.forall_mem_cons.2 ⟨c62, (List.forall_mem_cons.2 ⟨c66, (List.forall_mem_cons.2 ⟨c72, (List.forall_mem_cons.2 ⟨c76, (List.forall_mem_cons.2 ⟨c80, (List.forall_mem_cons.2 ⟨c84, (List.forall_mem_cons.2 ⟨c88, (List.forall_mem_cons.2 ⟨c94, (List.forall_mem_cons.2 ⟨c98, (List.forall_mem_cons.2 ⟨c103, (List.forall_mem_cons.2 ⟨c107, (List.forall_mem_cons.2 ⟨c111, (List.forall_mem_cons.2 ⟨c115, (List.forall_mem_cons.2 ⟨c119, (List.forall_mem_cons.2 ⟨c124, (List.forall_mem_cons.2 ⟨c128, (fun _ h => absurd h (List.not_mem_nil))⟩)⟩)⟩)⟩)⟩)⟩)⟩)⟩)⟩)⟩)⟩)⟩)⟩)⟩)⟩)⟩)⟩)⟩)⟩)⟩)⟩)⟩)⟩)⟩)⟩)⟩)⟩)⟩)⟩)⟩)
def l31 : List (Nat × LFunc) := [(132, f132), (137, f137), (141, f141), (145, f145), (149, f149), (157, f157), (161, f161), (166, f166), (170, f170), (174, f174), (178, f178), (182, f182), (186, f186), (190, f190), (197, f197), (201, f201), (205, f205), (209, f209), (213, f213), (217, f217), (221, f221), (225, f225), (229, f229), (233, f233), (239, f239), (243, f243), (247, f247), (266, f266), (270, f270), (278, f278)]
theorem a31 : ∀ p ∈ l31, funsOf Tryz.prog (fun _ => []) p.1 = some p.2 := (List.forall_mem_cons.2 ⟨c132, (List.forall_mem_cons.2 ⟨c137, (List.forall_mem_cons.2 ⟨c141, (List.forall_mem_cons.2 ⟨c145, (List.forall_mem_cons.2 ⟨c149, (List.forall_mem_cons.2 ⟨c157, (List.forall_mem_cons.2 ⟨c161, (List.forall_mem_cons.2 ⟨c166, (List.forall_mem_cons.2 ⟨c170, (List.forall_mem_cons.2 ⟨c174, (List.forall_mem_cons.2 ⟨c178, (List.forall_mem_cons.2 ⟨c182, (List.forall_mem_cons.2 ⟨c186, (List.forall_mem_cons.2 ⟨c190, (List.forall_mem_cons.2 ⟨c197, (List.forall_mem_cons.2 ⟨c201, (List.forall_mem_cons.2 ⟨c205, (List.forall_mem_cons.2 ⟨c209, (List.forall_mem_cons.2 ⟨c213, (List.forall_mem_cons.2 ⟨c217, (List.forall_mem_cons.2 ⟨c221, (List.forall_mem_cons.2 ⟨c225, (List.forall_mem_cons.2 ⟨c229, (List.forall_mem_cons.2 ⟨c233, (List.forall_mem_cons.2 ⟨c239, (List.forall_mem_cons.2 ⟨c243, (List.forall_mem_cons.2 ⟨c247, (List.forall_mem_cons.2 ⟨c266, (List.forall_mem_cons.2 ⟨c270, (List.forall_mem_cons.2 ⟨c278, (fun _ h => absurd h (List.not_mem_nil))⟩)⟩)⟩)⟩)⟩)⟩)⟩)⟩)⟩)⟩)⟩)⟩)⟩)⟩)⟩)⟩)⟩)⟩)⟩)⟩)⟩)⟩)⟩)⟩)⟩)⟩)⟩)⟩)⟩)⟩)
def l32 : List (Nat × LFunc) := [(282, f282), (286, f286), (290, f290), (296, f296), (301, f301), (313, f313), (319, f319), (323, f323), (327, f327), (333, f333), (337, f337), (345, f345), (349, f349), (353, f353), (360, f360), (364, f364), (368, f368), (373, f373), (379, f379), (386, f386), (390, f390), (394, f394), (413, f413), (417, f417), (428, f428), (432, f432), (439, f439), (443, f443), (447, f447), (452, f452)]
theorem a32 : ∀ p ∈ l32, funsOf Tryz.prog (fun _ => []) p.1 = some p.2 := (List.forall_mem_cons.2 ⟨c282, (List.forall_mem_cons.2 ⟨c286, (List.forall_mem_cons.2 ⟨c290, (List.forall_mem_cons.2 ⟨c296, (List.forall_mem_cons.2 ⟨c301, (List.forall_mem_cons.2 ⟨c313, (List.forall_mem_cons.2 ⟨c319, (List.forall_mem_cons.2 ⟨c323, (List.forall_mem_cons.2 ⟨c327, (List.forall_mem_cons.2 ⟨c333, (List.forall_mem_cons.2 ⟨c337, (List.forall_mem_cons.2 ⟨c345, (List.forall_mem_cons.2 ⟨c349, (List.forall_mem_cons.2 ⟨c353, (List.forall_mem_cons.2 ⟨c360, (List.forall_mem_cons.2 ⟨c364, (List.forall_mem_cons.2 ⟨c368, (List.forall_mem_cons.2 ⟨c373, (List.forall_mem_cons.2 ⟨c379, (List.forall_mem_cons.2 ⟨c386, (List.forall_mem_cons.2 ⟨c390, (List.forall_mem_cons.2 ⟨c394, (List.forall_mem_cons.2 ⟨c413, (List.forall_mem_cons.2 ⟨c417, (List.forall_mem_cons.2 ⟨c428, (List.forall_mem_cons.2 ⟨c432, (List.forall_mem_cons.2 ⟨c439, (List.forall_mem_cons.2 ⟨c443, (List.forall_mem_cons.2 ⟨c447, (List.forall_mem_cons.2 ⟨c452, (fun _ h => absurd h (List.not_mem_nil))⟩)⟩)⟩)⟩)⟩)⟩)⟩)⟩)⟩)⟩)⟩)⟩)⟩)⟩)⟩)⟩)⟩)⟩)⟩)⟩)⟩)⟩)⟩)⟩)⟩)⟩)⟩)⟩)⟩)⟩)
def l3 : List (Nat × LFunc) := l30 ++ l31 ++ l32
theorem a3 : ∀ p ∈ l3, funsOf Tryz.prog (fun _ => []) p.1 = some p.2 := (both3_ (both3_ a30 a31) a32)
end Go.Proofs.YtojbggomekgkcaaGreat.C
