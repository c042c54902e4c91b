import Derived.Test.YtojbggomekgkcaaGreatEvF
import Derived.Test.YtojbggomekgkcaaGreatJoin
import Derived.Test.YtojbggomekgkcaaGreatComp0
import Derived.Test.YtojbggomekgkcaaGreatComp1
import Derived.Test.YtojbggomekgkcaaGreatComp2
import Derived.Test.YtojbggomekgkcaaGreatComp3
/- The primitives of this program, and what its runs are made over. -/
namespace Go.Proofs.YtojbggomekgkcaaGreat.C
open Go Go.Ev Go.Proofs
set_option maxRecDepth 100000
theorem mixed : Tryz.prog.follows .mixedOrders = true := by kernel_rfl
theorem names : namesOk Tryz.prog = true := by kernel_rfl
theorem cmpOK : PrimOk Tryz.prog 343 cmpP := cmp_ok Tryz.func343 (names_of names Tryz.func343) (by kernel_rfl) (by kernel_rfl) (by kernel_rfl)
theorem addOK : PrimOk Tryz.prog 99 addP := add_ok Tryz.func99 (names_of names Tryz.func99) (by kernel_rfl) (by kernel_rfl) (by kernel_rfl) rfl
theorem subOK : PrimOk Tryz.prog 152 subP := sub_ok Tryz.func152 (names_of names Tryz.func152) (by kernel_rfl) (by kernel_rfl) (by kernel_rfl) rfl
theorem ov89 : PrimOk Tryz.prog 89 ovP := ov_ok (tS := 101) (tR := 4) Tryz.func89 (names_of names Tryz.func89) (by kernel_rfl) (by kernel_rfl) (by kernel_rfl) Tryz.underlying101 Tryz.sizeOf126
theorem insC43 : funsOf Tryz.prog (fun _ => []) 43 = some (insF 2 32 [.slice none 0 0, .pointer none] 89 90) := by kernel_rfl
theorem ins43 : PrimOk Tryz.prog 43 (insP 2 32) := ins_ok (zero := [.slice none 0 0, .pointer none]) mixed (funRel names insC43) ov89 (by decide) rfl rfl (by decide)
theorem ov150 : PrimOk Tryz.prog 150 ovP := ov_ok (tS := 204) (tR := 4) Tryz.func150 (names_of names Tryz.func150) (by kernel_rfl) (by kernel_rfl) (by kernel_rfl) Tryz.underlying204 Tryz.sizeOf203
theorem insC102 : funsOf Tryz.prog (fun _ => []) 102 = some (insF 4 40 [.int .i64 0, .int .i64 0, .string ⟨#[]⟩, .bool false] 150 151) := by kernel_rfl
theorem ins102 : PrimOk Tryz.prog 102 (insP 4 40) := ins_ok (zero := [.int .i64 0, .int .i64 0, .string ⟨#[]⟩, .bool false]) mixed (funRel names insC102) ov150 (by decide) rfl rfl (by decide)
theorem ov314 : PrimOk Tryz.prog 314 ovP := ov_ok (tS := 342) (tR := 4) Tryz.func314 (names_of names Tryz.func314) (by kernel_rfl) (by kernel_rfl) (by kernel_rfl) Tryz.underlying342 Tryz.sizeOf341
theorem insC268 : funsOf Tryz.prog (fun _ => []) 268 = some (insF 2 24 [.string ⟨#[]⟩, .int .i64 0] 314 315) := by kernel_rfl
theorem ins268 : PrimOk Tryz.prog 268 (insP 2 24) := ins_ok (zero := [.string ⟨#[]⟩, .int .i64 0]) mixed (funRel names insC268) ov314 (by decide) rfl rfl (by decide)
theorem ov355 : PrimOk Tryz.prog 355 ovP := ov_ok (tS := 368) (tR := 4) Tryz.func355 (names_of names Tryz.func355) (by kernel_rfl) (by kernel_rfl) (by kernel_rfl) Tryz.underlying368 Tryz.sizeOf367
theorem insC323 : funsOf Tryz.prog (fun _ => []) 323 = some (insF 2 48 [.slice none 0 0, .slice none 0 0] 355 356) := by kernel_rfl
theorem ins323 : PrimOk Tryz.prog 323 (insP 2 48) := ins_ok (zero := [.slice none 0 0, .slice none 0 0]) mixed (funRel names insC323) ov355 (by decide) rfl rfl (by decide)
theorem ov409 : PrimOk Tryz.prog 409 ovP := ov_ok (tS := 471) (tR := 4) Tryz.func409 (names_of names Tryz.func409) (by kernel_rfl) (by kernel_rfl) (by kernel_rfl) Tryz.underlying471 Tryz.sizeOf475
theorem insC384 : funsOf Tryz.prog (fun _ => []) 384 = some (insF 4 56 [.int .i64 0, .int .i64 0, .string ⟨#[]⟩, .slice none 0 0] 409 410) := by kernel_rfl
theorem ins384 : PrimOk Tryz.prog 384 (insP 4 56) := ins_ok (zero := [.int .i64 0, .int .i64 0, .string ⟨#[]⟩, .slice none 0 0]) mixed (funRel names insC384) ov409 (by decide) rfl rfl (by decide)
theorem ov411 : PrimOk Tryz.prog 411 ovP := ov_ok (tS := 458) (tR := 4) Tryz.func411 (names_of names Tryz.func411) (by kernel_rfl) (by kernel_rfl) (by kernel_rfl) Tryz.underlying458 Tryz.sizeOf457
theorem insC387 : funsOf Tryz.prog (fun _ => []) 387 = some (insF 4 56 [.int .i64 0, .int .i64 0, .string ⟨#[]⟩, .slice none 0 0] 411 412) := by kernel_rfl
theorem ins387 : PrimOk Tryz.prog 387 (insP 4 56) := ins_ok (zero := [.int .i64 0, .int .i64 0, .string ⟨#[]⟩, .slice none 0 0]) mixed (funRel names insC387) ov411 (by decide) rfl rfl (by decide)
theorem joinOK : PrimOk Tryz.prog 363 joinP := join_ok Tryz.func363 (Option.isSome_iff_exists.1 (by kernel_rfl)).choose_spec (names_of names Tryz.func363) Tryz.strings_Join Tryz.strings_Join_none
def base : List (Nat × Prim) := [(343, cmpP), (99, addP), (152, subP), (363, joinP), (43, insP 2 32), (102, insP 4 40), (268, insP 2 24), (323, insP 2 48), (384, insP 4 56), (387, insP 4 56)]
theorem base_ok : ∀ p ∈ base, PrimOk Tryz.prog p.1 p.2 := (List.forall_mem_cons.2 ⟨cmpOK, (List.forall_mem_cons.2 ⟨addOK, (List.forall_mem_cons.2 ⟨subOK, (List.forall_mem_cons.2 ⟨joinOK, (List.forall_mem_cons.2 ⟨ins43, (List.forall_mem_cons.2 ⟨ins102, (List.forall_mem_cons.2 ⟨ins268, (List.forall_mem_cons.2 ⟨ins323, (List.forall_mem_cons.2 ⟨ins384, (List.forall_mem_cons.2 ⟨ins387, (fun _ h => absurd h (List.not_mem_nil))⟩)⟩)⟩)⟩)⟩)⟩)⟩)⟩)⟩)⟩)
def all : List (Nat × LFunc) := l0 ++ (l1 ++ (l2 ++ l3))
theorem all_ok : ∀ p ∈ all, funsOf Tryz.prog (fun _ => []) p.1 = some p.2 := both0_ a0 (both0_ a1 (both0_ a2 a3))
def funT : Trie LFunc := ofList all
def cfg (prims : List (Nat × Prim)) : Cfg := cfgT funT prims
theorem cfg_ok {prims : List (Nat × Prim)} (h : ∀ p ∈ prims, PrimOk Tryz.prog p.1 p.2) : CfgOk Tryz.prog (cfg prims) := cfgT_ok mixed names all_ok h
end Go.Proofs.YtojbggomekgkcaaGreat.C
