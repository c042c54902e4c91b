import Derived.Test.YtojbggomekgkcaaGreatR8
import Derived.Test.YtojbggomekgkcaaGreatR22
import Derived.Test.YtojbggomekgkcaaGreatR11
import Derived.Test.YtojbggomekgkcaaGreatR9
import Derived.Test.YtojbggomekgkcaaGreatR12
import Derived.Test.YtojbggomekgkcaaGreatR20
import Derived.Test.YtojbggomekgkcaaGreatR13
import Derived.Test.YtojbggomekgkcaaGreatR14
import Derived.Test.YtojbggomekgkcaaGreatR15
import Derived.Test.YtojbggomekgkcaaGreatR16
import Derived.Test.YtojbggomekgkcaaGreatR21
import Derived.Test.YtojbggomekgkcaaGreatR24
import Derived.Test.YtojbggomekgkcaaGreatRL
/- The closed law, joined. -/
namespace Go.Proofs.YtojbggomekgkcaaGreat.C
open Go Go.Ev Go.Proofs
theorem ok0 : ∀ p ∈ p0, PrimOk Tryz.prog p.1 p.2 := base_ok
theorem b8 : PrimOk Tryz.prog 334 (boolP true) := bool_of (cfg_ok ok0) names Tryz.func334 (by kernel_rfl) r8
theorem ok1 : ∀ p ∈ p1, PrimOk Tryz.prog p.1 p.2 := List.forall_mem_cons.2 ⟨b8, ok0⟩
theorem b22 : PrimOk Tryz.prog 130 (boolP true) := bool_of (cfg_ok ok1) names Tryz.func130 (by kernel_rfl) r22
theorem ok2 : ∀ p ∈ p2, PrimOk Tryz.prog p.1 p.2 := List.forall_mem_cons.2 ⟨b22, ok1⟩
theorem b11 : PrimOk Tryz.prog 446 (boolP true) := bool_of (cfg_ok ok2) names Tryz.func446 (by kernel_rfl) r11
theorem ok3 : ∀ p ∈ p3, PrimOk Tryz.prog p.1 p.2 := List.forall_mem_cons.2 ⟨b11, ok2⟩
theorem b9 : PrimOk Tryz.prog 231 (boolP true) := bool_of (cfg_ok ok3) names Tryz.func231 (by kernel_rfl) r9
theorem ok4 : ∀ p ∈ p4, PrimOk Tryz.prog p.1 p.2 := List.forall_mem_cons.2 ⟨b9, ok3⟩
theorem b12 : PrimOk Tryz.prog 431 (boolP true) := bool_of (cfg_ok ok4) names Tryz.func431 (by kernel_rfl) r12
theorem ok5 : ∀ p ∈ p5, PrimOk Tryz.prog p.1 p.2 := List.forall_mem_cons.2 ⟨b12, ok4⟩
theorem b20 : PrimOk Tryz.prog 128 (boolP true) := bool_of (cfg_ok ok5) names Tryz.func128 (by kernel_rfl) r20
theorem ok6 : ∀ p ∈ p6, PrimOk Tryz.prog p.1 p.2 := List.forall_mem_cons.2 ⟨b20, ok5⟩
theorem b13 : PrimOk Tryz.prog 391 (boolP true) := bool_of (cfg_ok ok6) names Tryz.func391 (by kernel_rfl) r13
theorem ok7 : ∀ p ∈ p7, PrimOk Tryz.prog p.1 p.2 := List.forall_mem_cons.2 ⟨b13, ok6⟩
theorem b14 : PrimOk Tryz.prog 392 (boolP true) := bool_of (cfg_ok ok7) names Tryz.func392 (by kernel_rfl) r14
theorem ok8 : ∀ p ∈ p8, PrimOk Tryz.prog p.1 p.2 := List.forall_mem_cons.2 ⟨b14, ok7⟩
theorem b15 : PrimOk Tryz.prog 340 (boolP true) := bool_of (cfg_ok ok8) names Tryz.func340 (by kernel_rfl) r15
theorem ok9 : ∀ p ∈ p9, PrimOk Tryz.prog p.1 p.2 := List.forall_mem_cons.2 ⟨b15, ok8⟩
theorem b16 : PrimOk Tryz.prog 232 (boolP true) := bool_of (cfg_ok ok9) names Tryz.func232 (by kernel_rfl) r16
theorem ok10 : ∀ p ∈ p10, PrimOk Tryz.prog p.1 p.2 := List.forall_mem_cons.2 ⟨b16, ok9⟩
theorem b21 : PrimOk Tryz.prog 129 (boolP true) := bool_of (cfg_ok ok10) names Tryz.func129 (by kernel_rfl) r21
theorem ok11 : ∀ p ∈ p11, PrimOk Tryz.prog p.1 p.2 := List.forall_mem_cons.2 ⟨b21, ok10⟩
theorem b24 : PrimOk Tryz.prog 28 (boolP true) := bool_of (cfg_ok ok11) names Tryz.func28 (by kernel_rfl) r24
theorem ok12 : ∀ p ∈ p12, PrimOk Tryz.prog p.1 p.2 := List.forall_mem_cons.2 ⟨b24, ok11⟩
theorem law (w : World) : Calls Tryz.prog 3 #[] w fun e w' => e = .returned (.bool true) ∧ RowKit.Below w.heap.size w w' := calls_true (cfg_ok ok12) names Tryz.func3 (by kernel_rfl) rL w
end Go.Proofs.YtojbggomekgkcaaGreat.C
