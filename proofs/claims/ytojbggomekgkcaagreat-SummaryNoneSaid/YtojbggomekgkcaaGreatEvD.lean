import Derived.Test.YtojbggomekgkcaaGreatEvC
import Derived.LoopNIn
import Derived.Below
/- An evaluator of the program's functions, and that it is sound: part of the proof. -/
set_option linter.unusedVariables false
set_option linter.unusedSimpArgs false
/- Code, function values: the evaluator is sound. -/
namespace Go.Ev
variable {P : Program} {F : Fence}

/-- The marks of loops over functions among the deferred calls: each names a block that nothing else leads to. -/
def Marks (B : Nat) (ι : Inj) (w : World) (D : List Deferred) : Prop :=
  ∃ rs : List Nat, D = rs.map (fun r => { target := .collected r, args := #[] }) ∧ rs.Nodup ∧ ∀ r ∈ rs, B ≤ r ∧ w.heap[r]? = some (.deferred (some [])) ∧ ∀ b R, ι b = some R → R.r ≠ r
theorem Marks.post {B fl : Nat} {ι ι' : Inj} {s s' : St} {w w' : World} {D : List Deferred} (h : Marks B ι w D) (hp : Post fl ι s w ι' s' w') : Marks B ι' w' D := by
  obtain ⟨rs, rfl, hn, hr⟩ := h
  refine ⟨rs, rfl, hn, fun r hm => ?_⟩
  obtain ⟨h0, h1, h2⟩ := hr r hm
  have hlt : r < w.heap.size := (Array.getElem?_eq_some_iff.1 h1).1
  refine ⟨h0, by rw [hp.frame r hlt fun b R hb hR => absurd hR (h2 b R hb)]; exact h1, fun b R hb hR => ?_⟩
  by_cases hk : b < s.k ∨ s'.k ≤ b
  · rw [hp.old b hk] at hb; exact h2 b R hb hR
  · rcases hp.rng b R (by omega) (by omega) hb with h | ⟨b0, R0, g1, g2, _, _⟩
    · omega
    · exact h2 b0 R0 g1 (by omega)
def toE : Xit → Exit
  | .normal => .normal
  | .exit id => .exit id
  | .ret => .ret
def CQ (P : Program) (fl N : Nat) (K : List Nat) (B : Nat) (ι : Inj) (s : St) (w : World) (T' : Tmps) (s' : St) (a' : Act) (w' : World) : Prop :=
  ∃ ι', Post fl ι s w ι' s' w' ∧ SRel P ι' s' w' ∧ TRel ι' T' a'.tmps ∧ keysIn T' K ∧ a'.tmps.size = N ∧ Marks B ι' w' a'.defers
theorem CQ.trans {fl N : Nat} {K : List Nat} {B : Nat} {ι ι1 : Inj} {s s1 s2 : St} {w w1 w2 : World} {T2 : Tmps} {a2 : Act} (h : Post fl ι s w ι1 s1 w1) (g : CQ P fl N K B ι1 s1 w1 T2 s2 a2 w2) : CQ P fl N K B ι s w T2 s2 a2 w2 := by
  obtain ⟨ι2, g1, g2⟩ := g
  exact ⟨ι2, h.trans g1, g2⟩
abbrev EC := Nat → Nat → LCode → Tmps → St → Option (Xit × Tmps × St)
def SoundC (P : Program) (ec : EC) : Prop := ∀ fl fn c T s x T' s', ec fl fn c T s = some (x, T', s') → ∀ (N : Nat) (K : List Nat) (B : Nat) (code : Code) (ι : Inj) (a : Act) (w : World) (F : Fence) (Q : Exit → Act → World → Prop),
  CR P N K code c → FOk F → (F.round = none ∨ flat c = true) → keysIn T K → TRel ι T a.tmps → a.tmps.size = N → SRel P ι s w → Fresh ι s s'.k → fl ≤ s.k → B ≤ w.heap.size → Marks B ι w a.defers →
  (∀ a' w', CQ P fl N K B ι s w T' s' a' w' → Q (toE x) a' w') → code.wpIn F 0 P Q a w
def SoundL (P : Program) (ec : EC) (m : Nat) : Prop := ∀ fl fn kill c T s x T' s', ec fl fn (.loop kill c) T s = some (x, T', s') → ∀ (N : Nat) (K : List Nat) (B : Nat) (code : Code) (ι : Inj) (a : Act) (w : World) (F : Fence) (Q : Exit → Act → World → Prop),
  CR P N K code c → FOk F → (F.round = none ∨ flat c = true) → keysIn T K → TRel ι T a.tmps → a.tmps.size = N → SRel P ι s w → Fresh ι s s'.k → fl ≤ s.k → B ≤ w.heap.size → Marks B ι w a.defers →
  (∀ a' w', CQ P fl N K B ι s w T' s' a' w' → Q (toE x) a' w') → Code.roundsIn F 0 P code Q m a w
/-- What is said of a primitive. -/
def PrimOk (P : Program) (f : FuncId) (p : Prim) : Prop := ∀ fl args s v s', p fl args s = some (v, s') → s.k ≤ s'.k ∧ ∀ ι w (args' : Array Value), VRels ι args args'.toList → SRel P ι s w → Fresh ι s s'.k → fl ≤ s.k → NextOK P fl ι s w (some v) s' ((callFunc f args').run P w)
inductive ResRel (P : Program) : List ResultVar → List LRes → Prop
  | nil : ResRel P [] []
  | tmp {t : Nat} {l : List ResultVar} {l' : List LRes} (h : ResRel P l l') : ResRel P (.tmp t :: l) (.tmp t :: l')
  | cell {a t : Nat} {n : Option Nat} {l : List ResultVar} {l' : List LRes} (ht : tagg P.toTables t = some n) (h : ResRel P l l') : ResRel P (.cell a t :: l) (.cell a n :: l')
def FunRel (P : Program) (f : FuncId) (L : LFunc) : Prop := ∃ fn c, P.funcs[f]? = some fn ∧ fn.body = some c ∧ fn.name ≠ "runtime.NumGoroutine" ∧ L.n = fn.ntmps ∧ CR P L.n L.K c L.body ∧ ResRel P fn.results.toList L.res
structure CfgOk (P : Program) (C : Cfg) : Prop where
  mixed : P.follows .mixedOrders = true
  eqt : ∀ x y, C.eqt x y = true → x = y
  funcs : ∀ f L, C.prim f = none → C.funcs f = some L → FunRel P f L
  prim : ∀ f p, C.prim f = some p → PrimOk P f p
section
variable {C : Cfg} {E : Evs} (hO : CfgOk P C) (hKm : KMono E) (hV : SoundV P E) (hC : SoundC P E.c)
 include hKm hC
theorem loop_ok {m : Nat} (hL : SoundL P E.c m) : SoundL P (eC C E) (m + 1) := by
  intro fl fn kill c T s x T' s' h N K B code ι a w F Q hcr hFk hfl hT hE ha hS hF hflk hB hM hQ
  simp only [eC] at h
  cases hb : E.c fl fn c (Tdrop kill T) s with
  | none => rw [hb] at h; simp [eThen] at h
  | some r =>
    obtain ⟨x1, T1, s1⟩ := r
    rw [hb] at h
    have hT0 : keysIn (Tdrop kill T) K := fun i v hv => hT i v (Tget_Tdrop T kill i v hv)
    have hE0 : TRel ι (Tdrop kill T) a.tmps := fun i v hv => hE i v (Tget_Tdrop T kill i v hv)
    rw [roundsIn_succ]
    by_cases hx : x1 = .normal
    · subst hx
      simp only [eThen] at h
      have hk1 := hKm.c _ _ _ _ _ _ _ _ hb
      have hk2 := hKm.c _ _ _ _ _ _ _ _ h
      refine hC _ _ _ _ _ _ _ _ hb N K B code ι a w F _ hcr hFk hfl hT0 hE0 ha hS (hF.left hk2) hflk hB hM ?_
      rintro a1 w1 ⟨ι1, p1, p2, p3, p4, p5, p6⟩
      refine hL _ _ _ _ _ _ _ _ _ h N K B code ι1 a1 w1 F Q hcr hFk hfl p4 p3 p5 p2 (hF.right p1) (Nat.le_trans hflk hk1) (Nat.le_trans hB p1.size) p6 ?_
      intro a2 w2 hq
      exact hQ a2 w2 (hq.trans p1)
    · have he : some (x1, T1, s1) = some (x, T', s') := by
        cases x1 <;> first | exact absurd rfl hx | exact h
      simp only [Option.some.injEq, Prod.mk.injEq] at he; obtain ⟨rfl, rfl, rfl⟩ := he
      refine hC _ _ _ _ _ _ _ _ hb N K B code ι a w F _ hcr hFk hfl hT0 hE0 ha hS hF hflk hB hM ?_
      intro a1 w1 hq
      have := hQ a1 w1 hq
      cases x1 <;> first | exact absurd rfl hx | exact this
end
theorem SRel.grow {ι : Inj} {s : St} {w : World} (h : SRel P ι s w) (o : Obj) : SRel P ι s (w.alloc o) := by
  have hh : ∀ r, r < w.heap.size → (w.alloc o).heap[r]? = w.heap[r]? := fun r hr => by
    show (w.heap.push o)[r]? = _
    rw [Array.getElem?_push, if_neg (by omega)]
  refine ⟨fun b x R hb hi => ?_, fun b x R hb hi => ?_, h.inj, fun b R hb => ?_, h.dis⟩
  · rw [hh _ (h.bnd b R hi)]; exact h.hm b x R hb hi
  · rw [hh _ (h.bnd b R hi)]; exact h.hi b x R hb hi
  · have := h.bnd b R hb
    show R.r < (w.heap.push o).size
    simp; omega
theorem Post.grow {fl : Nat} {ι : Inj} {s : St} {w : World} (hF : Fresh ι s s.k) (o : Obj) : Post fl ι s w ι s (w.alloc o) := by
  have := Post.refl (fl := fl) (w := w) hF
  refine ⟨this.k, this.old, this.rng, ?_, fun r hr _ => ?_, this.unreal, this.flr, this.imm, this.dead, this.wf, rfl, rfl, rfl⟩
  · show w.heap.size ≤ (w.heap.push o).size
    simp
  · show (w.heap.push o)[r]? = _
    rw [Array.getElem?_push, if_neg (by omega)]
theorem callFunc_run {f : FuncId} {fn : Func} {c : Code} (h1 : P.funcs[f]? = some fn) (h2 : fn.body = some c) (h3 : fn.name ≠ "runtime.NumGoroutine") (args : Array Value) (w : World) : (callFunc f args).run P w = .ok (.enter f args) w := by
  simp [callFunc, h1, h2, h3]
end Go.Ev
/- Code: all kinds but the range over a function. -/
namespace Go.Ev
variable {P : Program} {F : Fence}
def noR : LCode → Bool
  | .rangeFunc .. => false
  | _ => true
section
variable {C : Cfg} {E : Evs} (hO : CfgOk P C) (hKm : KMono E) (hV : SoundV P E) (hC : SoundC P E.c)
 include hO hKm hV hC
theorem code_ok {m : Nat} (hL : SoundL P E.c m) {fl fn : Nat} {c : LCode} {T : Tmps} {s : St} {x : Xit} {T' : Tmps} {s' : St} (hno : noR c = true) (h : eC C E fl fn c T s = some (x, T', s')) (N : Nat) (K : List Nat) (B : Nat) (code : Code) (ι : Inj) (a : Act) (w : World) (F : Fence) (Q : Exit → Act → World → Prop)
    (hcr : CR P N K code c) (hFk : FOk F) (hfl : F.round = none ∨ flat c = true) (hT : keysIn T K) (hE : TRel ι T a.tmps) (ha : a.tmps.size = N) (hS : SRel P ι s w) (hF : Fresh ι s s'.k) (hflk : fl ≤ s.k) (hB : B ≤ w.heap.size) (hM : Marks B ι w a.defers)
    (hQ : ∀ a' w', CQ P fl N K B ι s w T' s' a' w' → Q (toE x) a' w') : code.wpIn F 0 P Q a w := by
  cases hcr with
  | skip =>
    simp only [eC, Option.some.injEq, Prod.mk.injEq] at h; obtain ⟨rfl, rfl, rfl⟩ := h
    exact wpIn_skip (hQ a w ⟨ι, Post.refl hF, hS, hE, hT, ha, hM⟩)
  | exit id =>
    simp only [eC, Option.some.injEq, Prod.mk.injEq] at h; obtain ⟨rfl, rfl, rfl⟩ := h
    exact wpIn_exit (hQ a w ⟨ι, Post.refl hF, hS, hE, hT, ha, hM⟩)
  | ret =>
    simp only [eC, Option.some.injEq, Prod.mk.injEq] at h; obtain ⟨rfl, rfl, rfl⟩ := h
    exact wpIn_ret (hQ a w ⟨ι, Post.refl hF, hS, hE, hT, ha, hM⟩)
  | text hrel =>
    simp only [eC] at h
    refine text_region (C := C) hV hKm hFk hrel hT hE ha hS h hF hflk ?_
    rintro a' w' ι' rfl p1 p2 p3 p4 p5 p6
    exact hQ a' w' ⟨ι', p1, p2, p3, p4, p5, by rw [p6]; exact hM.post p1⟩
  | draw hrel hd =>
    simp only [eC] at h
    refine draw_region (C := C) hV hKm hO.eqt hFk hO.mixed hrel hd hT hE ha hS h hF hflk ?_
    rintro a' w' ι' rfl p1 p2 p3 p4 p5 p6
    exact hQ a' w' ⟨ι', p1, p2, p3, p4, p5, by rw [p6]; exact hM.post p1⟩
  | seq h1 h2 =>
    rename_i ca cb la lb
    simp only [eC] at h
    have hfa : F.round = none ∨ flat la = true := hfl.imp id fun g => by simp [flat] at g; exact g.1
    have hfb : F.round = none ∨ flat lb = true := hfl.imp id fun g => by simp [flat] at g; exact g.2
    cases hb : E.c fl fn la T s with
    | none => rw [hb] at h; simp [eThen] at h
    | some r =>
      obtain ⟨x1, T1, s1⟩ := r
      rw [hb] at h
      by_cases hx : x1 = .normal
      · subst hx
        simp only [eThen] at h
        have hk1 := hKm.c _ _ _ _ _ _ _ _ hb
        have hk2 := hKm.c _ _ _ _ _ _ _ _ h
        refine wpIn_seq (hC _ _ _ _ _ _ _ _ hb N K B ca ι a w F _ h1 hFk hfa hT hE ha hS (hF.left hk2) hflk hB hM ?_)
        rintro a1 w1 ⟨ι1, p1, p2, p3, p4, p5, p6⟩
        refine hC _ _ _ _ _ _ _ _ h N K B cb ι1 a1 w1 F Q h2 hFk hfb p4 p3 p5 p2 (hF.right p1) (Nat.le_trans hflk hk1) (Nat.le_trans hB p1.size) p6 ?_
        intro a2 w2 hq
        exact hQ a2 w2 (hq.trans p1)
      · have he : some (x1, T1, s1) = some (x, T', s') := by
          cases x1 <;> first | exact absurd rfl hx | exact h
        simp only [Option.some.injEq, Prod.mk.injEq] at he; obtain ⟨rfl, rfl, rfl⟩ := he
        refine wpIn_seq (hC _ _ _ _ _ _ _ _ hb N K B ca ι a w F _ h1 hFk hfa hT hE ha hS hF hflk hB hM ?_)
        intro a1 w1 hq
        have := hQ a1 w1 hq
        cases x1 <;> first | exact absurd rfl hx | exact this
  | cond hc h1 h2 =>
    rename_i cnd ca cb la lb
    simp only [eC] at h
    unfold eCond at h
    split at h
    · rename_i t hv
      have hr := (ev_rel (a := a) hE.env hc hv).bool_inv
      refine wpIn_cond hr ?_
      cases t with
      | true => exact hC _ _ _ _ _ _ _ _ h N K B ca ι a w F Q h1 hFk (hfl.imp id fun g => by simp [flat] at g; exact g.1) hT hE ha hS hF hflk hB hM hQ
      | false => exact hC _ _ _ _ _ _ _ _ h N K B cb ι a w F Q h2 hFk (hfl.imp id fun g => by simp [flat] at g; exact g.2) hT hE ha hS hF hflk hB hM hQ
    · cases h
  | block h1 =>
    rename_i bid ca la
    simp only [eC] at h
    cases hb : E.c fl fn la T s with
    | none => rw [hb] at h; simp [eBlock] at h
    | some r =>
      obtain ⟨x1, T1, s1⟩ := r
      rw [hb] at h
      have hs : T1 = T' ∧ s1 = s' := by
        cases x1 with
        | normal => simp only [eBlock, Option.some.injEq, Prod.mk.injEq] at h; exact h.2
        | ret => simp only [eBlock, Option.some.injEq, Prod.mk.injEq] at h; exact h.2
        | exit j =>
          simp only [eBlock] at h
          split at h <;> simp only [Option.some.injEq, Prod.mk.injEq] at h <;> exact h.2
      obtain ⟨rfl, rfl⟩ := hs
      refine wpIn_block (hC _ _ _ _ _ _ _ _ hb N K B ca ι a w F _ h1 hFk (hfl.imp id fun g => by simpa [flat] using g) hT hE ha hS hF hflk hB hM ?_)
      intro a1 w1 hq
      have := hQ a1 w1 hq
      cases x1 with
      | normal => simp only [eBlock, Option.some.injEq, Prod.mk.injEq] at h; obtain ⟨rfl, _⟩ := h; exact this
      | ret => simp only [eBlock, Option.some.injEq, Prod.mk.injEq] at h; obtain ⟨rfl, _⟩ := h; exact this
      | exit j =>
        simp only [eBlock] at h
        simp only [toE, Exit.inBlock]
        split at h
        · rename_i hj
          simp only [Option.some.injEq, Prod.mk.injEq] at h; obtain ⟨rfl, _⟩ := h
          rw [if_pos hj]; exact this
        · rename_i hj
          simp only [Option.some.injEq, Prod.mk.injEq] at h; obtain ⟨rfl, _⟩ := h
          rw [if_neg hj]; exact this
  | loop h1 =>
    exact wpIn_loop_rounds (m + 1) (loop_ok hKm hC hL _ _ _ _ _ _ _ _ _ h N K B _ ι a w F Q h1 hFk (hfl.imp id fun g => by simpa [flat] using g) hT hE ha hS hF hflk hB hM hQ)
  | rangeFunc => simp [noR] at hno
end
end Go.Ev
/- The range over a function. -/
namespace Go.Ev
variable {P : Program} {F : Fence}
theorem FOk.wide (h : FOk F) (hr : F.round = none) : F = Fence.wide := by
  rcases h with rfl | ⟨l, rfl⟩
  · rfl
  · simp at hr
theorem Marks.push {B : Nat} {ι : Inj} {w' : World} {D : List Deferred} {r : Nat} (h : Marks B ι w' D) (hB : B ≤ r) (hh : w'.heap[r]? = some (.deferred (some []))) (hu : ∀ b R, ι b = some R → R.r ≠ r) (hn : ∀ d ∈ D, d.target ≠ .collected r) : Marks B ι w' ({ target := .collected r, args := #[] } :: D) := by
  obtain ⟨rs, rfl, h1, h2⟩ := h
  refine ⟨r :: rs, rfl, List.nodup_cons.2 ⟨fun hm => ?_, h1⟩, fun x hx => ?_⟩
  · exact hn { target := .collected r, args := #[] } (List.mem_map.2 ⟨r, hm, rfl⟩) rfl
  · rcases List.mem_cons.1 hx with rfl | hx
    · exact ⟨hB, hh, hu⟩
    · exact h2 x hx
section
variable {C : Cfg} {E : Evs} (hO : CfgOk P C) (hKm : KMono E) (hV : SoundV P E) (hC : SoundC P E.c)
 include hO hKm hV hC
theorem range_ok {fl fn : Nat} {g : Operand} {ps : List Nat} {la lb : LCode} {T : Tmps} {s : St} {x : Xit} {T' : Tmps} {s' : St} (h : eC C E fl fn (.rangeFunc g ps la lb) T s = some (x, T', s')) (N : Nat) (K : List Nat) (B : Nat) (code : Code) (ι : Inj) (a : Act) (w : World) (F : Fence) (Q : Exit → Act → World → Prop)
    (hcr : CR P N K code (.rangeFunc g ps la lb)) (hFk : FOk F) (hfl : F.round = none ∨ flat (.rangeFunc g ps la lb) = true) (hT : keysIn T K) (hE : TRel ι T a.tmps) (ha : a.tmps.size = N) (hS : SRel P ι s w) (hF : Fresh ι s s'.k) (hflk : fl ≤ s.k) (hB : B ≤ w.heap.size) (hM : Marks B ι w a.defers)
    (hQ : ∀ a' w', CQ P fl N K B ι s w T' s' a' w' → Q (toE x) a' w') : code.wpIn F 0 P Q a w := by
  have hro : F.round = none := hfl.resolve_right (by simp [flat])
  obtain rfl := hFk.wide hro
  cases hcr with
  | rangeFunc hg hp h1 h2 hfa hfb =>
    rename_i psA ca cb
    simp only [eC] at h
    unfold eRange at h
    split at h
    case h_2 => cases h
    rename_i f fi cp hev
    split at h
    case h_2 => cases h
    rename_i LF hprim hfun
    obtain ⟨fnR, cR, q1, q2, q3, _, _, _⟩ := hO.funcs f LF hprim hfun
    have hrg := ev_rel (a := a) hE.env hg hev
    generalize hgv : a.eval g = gv at hrg
    obtain ⟨fi', cp', rfl, hfi, hcp⟩ : ∃ fi' cp', gv = .func (.func f) fi' cp' ∧ VRels ι fi.toList fi'.toList ∧ VRels ι cp.toList cp'.toList := by
      cases hrg with
      | func a b => exact ⟨_, _, rfl, a, b⟩
    cases hv : E.v fl (.func (.func f) fi cp) [.func (.yield s.k) #[] #[]] (s.new (.loop 0 T psA.toList la lb fn none)) with
    | none => rw [hv] at h; simp [eRangeEnd] at h
    | some r =>
      obtain ⟨v, s2⟩ := r
      rw [hv] at h
      have hk1 := hKm.v _ _ _ _ _ _ hv
      have hk1' : s.k + 1 ≤ s2.k := hk1
      have hk2 : s2.k ≤ s'.k := by
        simp only [eRangeEnd] at h
        split at h
        · simp only [Option.some.injEq, Prod.mk.injEq] at h; rw [← h.2.2]; exact Nat.le_refl _
        · have := hKm.c _ _ _ _ _ _ _ _ h; exact this
        · cases h
      refine wpIn_rangeFunc fun fnr _ => ?_
      -- the record is laid
      have hFs : Fresh ι s (s.k + 1) := hF.left (s1 := s.new (.loop 0 T psA.toList la lb fn none)) (by show s.k + 1 ≤ s'.k; omega)
      have hFs0 : Fresh ι s s.k := hF.left (s1 := s) (by omega)
      let ob : Loop := { state := .ready, pending := none, fn := fnr, tmps := a.tmps, params := psA, assign := ca, body := cb, defers := w.heap.size }
      have hnew := new_rel (P := P) false (.loop 0 T psA.toList la lb fn none) (.loop ob) ⟨w.heap.size + 1, 0, 0⟩ (hS.grow (.deferred (some []))) hFs (by show w.heap.size + 1 = (w.heap.push _).size; simp)
        (fun ι' hx => ⟨ob, K, rfl, rfl, hE.mono hx, hT, by rw [show ob.tmps.size = N from ha]; exact h1, by rw [show ob.tmps.size = N from ha]; exact h2, fun p hp' => by rw [show ob.tmps.size = N from ha]; exact hp p (by simpa using hp'), rfl, .none, hfa, hfb⟩) fl hflk
      obtain ⟨p1, sr1⟩ := hnew
      have p01 := (Post.grow (fl := fl) (w := w) hFs0 (.deferred (some []))).trans p1
      generalize hι1 : (fun b => if b = s.k then some (⟨w.heap.size + 1, 0, 0⟩ : Real) else ι b) = ι1 at p1 sr1 p01
      have hl1 : ι1 s.k = some ⟨w.heap.size + 1, 0, 0⟩ := by rw [← hι1]; simp
      have hx1 : Ext ι ι1 := p01.ext (hF.left (s1 := s.add false (.loop 0 T psA.toList la lb fn none)) (by rw [add_k]; omega))
      have hw1 : ({ w.alloc (.deferred (some [])) with heap := (w.alloc (.deferred (some []))).heap.push (.loop ob) } : World) = (w.alloc (.deferred (some []))).alloc (.loop ob) := rfl
      rw [hw1] at p1 sr1 p01
      generalize hwv : (w.alloc (.deferred (some []))).alloc (.loop ob) = w1 at p1 sr1 p01
      have hF1 : Fresh ι1 (s.add false (.loop 0 T psA.toList la lb fn none)) s2.k := (hF.left hk2).right p01
      have hcall := hV _ _ _ _ _ _ hv ι1 w1 (.func (.func f) fi' cp') #[.func (.yield (w.heap.size + 1)) #[] #[]] (.func (hfi.mono hx1) (hcp.mono hx1)) (.cons (.yield hl1) .nil) sr1 hF1 (by show fl ≤ s.k + 1; omega)
      have hres : (resolve a.eval (rangeCall g (w.heap.size + 1)) 0).run P w1 = .ok { target := .fn (.func f) cp', args := fi' ++ #[.func (.yield (w.heap.size + 1)) #[] #[]] } w1 := by
        have hm : Array.map a.eval #[Operand.const (Value.func (Fn.yield (w.heap.size + 1)) #[] #[])] = #[Value.func (Fn.yield (w.heap.size + 1)) #[] #[]] := by simp [Act.eval]
        simp only [resolve, rangeCall, hgv, Deferred.ofValue, Sem.run_pure, hm]
      have hinv : (invoke (.fn (.func f) cp') (fi' ++ #[.func (.yield (w.heap.size + 1)) #[] #[]])).run P w1 = .ok (.enter f (fi' ++ #[.func (.yield (w.heap.size + 1)) #[] #[]] ++ cp')) w1 := by
        simp only [invoke]; exact callFunc_run q1 q2 q3 _ _
      have hcalls : CallsIn Fence.wide 0 P f (fi' ++ #[.func (.yield (w.heap.size + 1)) #[] #[]] ++ cp') w1 (Ret P fl ι1 (s.add false (.loop 0 T psA.toList la lb fn none)) w1 (some v) s2) := by
        have e : (Deferred.ofValue (.func (.func f) fi' cp') #[.func (.yield (w.heap.size + 1)) #[] #[]] >>= fun d => invoke d.target d.args).run P w1 = .ok (.enter f (fi' ++ #[.func (.yield (w.heap.size + 1)) #[] #[]] ++ cp')) w1 := by
          simp only [Deferred.ofValue, Sem.run_bind, Sem.run_pure, Result.andThen_ok]; exact hinv
        rw [e] at hcall
        cases hcall with
        | enter hh => exact hh
      refine ⟨w.heap.size + 1, [{ target := .collected w.heap.size, args := #[] }], w1, _, w1, f, _, w1, by rw [← hwv]; exact run_enterLoop_outer fnr a.tmps psA ca cb, hres, fun _ _ => trivial, hinv, fun hh => by simp [Fence.wide] at hh, hcalls.mono ?_⟩
      rintro e w3 ⟨u, rfl, ι2, p2, sr2, _⟩
      have p02 := p01.trans p2
      have hl2 : ι2 s.k = some ⟨w.heap.size + 1, 0, 0⟩ := by rw [p2.old s.k (.inl (by rw [add_k]; omega))]; exact hl1
      have hF2 : Fresh ι2 s2 s2.k := ⟨p2.wf, fun b a b' => by omega⟩
      -- its end
      have done : ∀ (st : Nat) (T2 : Tmps) (ps2 : List Nat) (a2 b2 : LCode) (fn2 : Nat) (pend : Option LCode), s2.hm.get s.k = some (.loop st T2 ps2 a2 b2 fn2 pend) → st ≠ 1 →
          ∃ (jump : Option Code) (w4 : World), PendRel pend jump ∧ (Instr.endLoop (w.heap.size + 1)).run P w3 = .ok jump w4 ∧ Post fl ι1 (s.add false (.loop 0 T psA.toList la lb fn none)) w1 ι2 (s2.del s.k) w4 ∧ SRel P ι2 (s2.del s.k) w4 := by
        intro st T2 ps2 a2 b2 fn2 pend hget hst
        obtain ⟨L, K2, g1, _, _, _, _, _, _, g8, g9, _⟩ := sr2.hm _ _ _ hget hl2
        have hnb : L.state ≠ .busy := by
          rw [g8]; unfold lstate; split <;> simp_all
        obtain ⟨r1, r2⟩ := upd_rel (P := P) (fl := fl) sr2 hF2 hget hflk hl2 none (.loop { L with state := .exhausted }) (fun x hx => by cases hx)
        exact ⟨L.pending, _, g9, run_endLoop g1 hnb, p2.trans r1, r2⟩
      have hmarks : Marks B ι1 w1 ({ target := .collected w.heap.size, args := #[] } :: a.defers) := by
        refine (hM.post p01).push hB ?_ ?_ ?_
        · rw [← hwv]
          show ((w.heap.push (.deferred (some []))).push (.loop ob))[w.heap.size]? = _
          rw [Array.getElem?_push, if_neg (by simp), Array.getElem?_push, if_pos rfl]
        · intro b R hb
          rw [← hι1] at hb
          simp only at hb
          split at hb
          · simp only [Option.some.injEq] at hb; subst hb; simp
          · have := hS.bnd b R hb; omega
        · obtain ⟨rs, hrs, _, hr⟩ := hM
          intro d hd
          rw [hrs] at hd
          obtain ⟨r, hr1, rfl⟩ := List.mem_map.1 hd
          have := (Array.getElem?_eq_some_iff.1 (hr r hr1).2.1).1
          intro hh
          injection hh with hh
          omega
      have hmk : ∀ w4, Post fl ι1 (s.add false (.loop 0 T psA.toList la lb fn none)) w1 ι2 (s2.del s.k) w4 → SRel P ι2 (s2.del s.k) w4 → CQ P fl N K B ι s w T (s2.del s.k) { a with defers := [{ target := .collected w.heap.size, args := #[] }] ++ a.defers } w4 := by
        intro w4 p4 sr4
        have p5 := p01.trans p4
        exact ⟨ι2, p5, sr4, hE.mono (p5.ext (hF.left (s1 := s2.del s.k) hk2)), hT, ha, hmarks.post p4⟩
      simp only [rangePost]
      simp only [eRangeEnd] at h
      split at h
      · rename_i T2 ps2 a2 b2 fn2 hget
        simp only [Option.some.injEq, Prod.mk.injEq] at h; obtain ⟨rfl, rfl, rfl⟩ := h
        obtain ⟨jump, w4, hpd, hend, p4, sr4⟩ := done 0 _ _ _ _ _ _ hget (by omega)
        cases hpd
        exact ⟨none, w4, hend, hQ _ _ (hmk w4 p4 sr4)⟩
      · rename_i T2 ps2 a2 b2 fn2 cj hget
        obtain ⟨jump, w4, hpd, hend, p4, sr4⟩ := done 2 _ _ _ _ _ _ hget (by omega)
        obtain ⟨ι3, m1, m2, m3, m4, m5, m6⟩ := hmk w4 p4 sr4
        have hkj := hKm.c _ _ _ _ _ _ _ _ h
        have go : ∀ (cd : Code), CR P N K cd cj → flat cj = true → cd.wpIn Fence.wide 0 P Q { a with defers := [{ target := .collected w.heap.size, args := #[] }] ++ a.defers } w4 := by
          intro cd hcd hfc
          refine hC _ _ _ _ _ _ _ _ h N K B cd ι3 _ w4 Fence.wide Q hcd (.inl rfl) (.inl rfl) m4 m3 m5 m2 (hF.right m1) (Nat.le_trans hflk m1.k) (Nat.le_trans hB m1.size) m6 ?_
          intro a5 w5 hq
          exact hQ a5 w5 (hq.trans m1)
        cases hpd with
        | ret => exact ⟨some .ret, w4, hend, go _ .ret rfl⟩
        | exit id => exact ⟨some (.exit id), w4, hend, go _ (.exit id) rfl⟩
      · cases h
end
end Go.Ev
/- The call of a function with a text. -/
namespace Go.Ev
variable {P : Program} {F : Fence}
/-! ### Results -/
def resOf (tmps : Array Value) : ResultVar → Sem Value
  | .tmp t => pure (tmps.getD t undef)
  | .cell a t => do loadVar t (← asAddr (tmps.getD a undef))
theorem results_eq (fn : Func) (tmps : Array Value) : results fn tmps = (do let vs ← fn.results.mapM (resOf tmps); pure (if h : vs.size = 1 then vs[0] else .tuple vs)) := by
  unfold results
  have : (fun | .tmp t => pure (tmps.getD t undef) | .cell a t => do loadVar t (← asAddr (tmps.getD a undef)) : ResultVar → Sem Value) = resOf tmps := by
    funext r; cases r <;> rfl
  rw [← this]
  rfl
theorem resOf_tmp (tmps : Array Value) (t : Nat) : resOf tmps (.tmp t) = pure (tmps.getD t undef) := rfl
theorem resOf_cell (tmps : Array Value) (a : Tmp) (t : TypeId) {v : Addr} (h : tmps.getD a undef = .pointer (some v)) : resOf tmps (.cell a t) = loadVar t v := by
  simp only [resOf, h, asAddr]; rfl
theorem res_run {ι : Inj} {s : St} {w : World} {T : Tmps} {tmps : Array Value} (hE : TRel ι T tmps) (hS : SRel P ι s w) : ∀ {rv : List ResultVar} {lr : List LRes} {vs : List Value}, ResRel P rv lr → resVs s T lr = some vs →
    ∃ vs', (rv.mapM (resOf tmps)).run P w = .ok vs' w ∧ VRels ι vs vs'
  | _, _, vs, .nil, h => by
    simp only [resVs, Option.some.injEq] at h; subst h
    exact ⟨[], by simp, .nil⟩
  | _, _, vs, .tmp (t := t) hr, h => by
    simp only [resVs, resV] at h
    cases ht : Tget T t with
    | none => simp [ht] at h
    | some v =>
      simp only [ht] at h
      cases hv : resVs s T _ with
      | none => rw [hv] at h; cases h
      | some l =>
        rw [hv] at h; simp only [Option.some.injEq] at h; subst h
        obtain ⟨vs', g1, g2⟩ := res_run hE hS hr hv
        obtain ⟨v', h1, h2⟩ := hE t v ht
        refine ⟨v' :: vs', ?_, .cons h2 g2⟩
        have hd : tmps.getD t undef = v' := by rw [Array.getD_eq_getD_getElem?, h1]; rfl
        simp only [List.mapM_cons, Sem.run_bind, Sem.run_pure, Result.andThen_ok, g1, hd, resOf_tmp]
  | _, _, vs, .cell (a := a) (t := t) (n := n) htg hr, h => by
    simp only [resVs] at h
    cases hx : resV s T (.cell a n) with
    | none => rw [hx] at h; cases h
    | some v =>
      rw [hx] at h
      simp only at h
      cases hv : resVs s T _ with
      | none => rw [hv] at h; cases h
      | some l =>
        rw [hv] at h; simp only [Option.some.injEq] at h; subst h
        obtain ⟨vs', g1, g2⟩ := res_run hE hS hr hv
        simp only [resV] at hx
        split at hx
        · rename_i p hp
          obtain ⟨v', h1, h2⟩ := hE a _ hp
          obtain ⟨R, hR, _, rfl⟩ := h2.ptr_inv
          have hld : rLoad s n (some (.pointer (some p))) = some (some v, s) := by
            simp only [rLoad]
            split at hx
            · rename_i c hc
              simp only [hc, hx, some1]
            · cases hx
          obtain ⟨_, u, q1, q2⟩ := load_gives (P := P) htg hS hld (v' := .pointer (some ⟨R.r, p.off + R.d, none⟩)) (fun u hu => by cases hu; exact h2)
          refine ⟨u :: vs', ?_, .cons q2 g2⟩
          have hd : tmps.getD a undef = .pointer (some ⟨R.r, p.off + R.d, none⟩) := by rw [Array.getD_eq_getD_getElem?, h1]; rfl
          have q1' : (loadVar t ⟨R.r, p.off + R.d, none⟩).run P w = .ok u w := by
            simpa [Instr.loadAt, Instr.sureAddr] using q1
          simp only [List.mapM_cons, Sem.run_bind, resOf_cell tmps a t hd, Sem.run_pure, Result.andThen_ok, q1', g1]
        · cases hx
theorem results_run {ι : Inj} {s : St} {w : World} {T : Tmps} {tmps : Array Value} (hE : TRel ι T tmps) (hS : SRel P ι s w) {fn : Func} {lr : List LRes} {vs : List Value} (hr : ResRel P fn.results.toList lr) (h : resVs s T lr = some vs) :
    ∃ v', (results fn tmps).run P w = .ok v' w ∧ VRel ι (tupleOf vs) v' := by
  obtain ⟨vs', h1, h2⟩ := res_run hE hS hr h
  rw [results_eq, Array.mapM_eq_mapM_toList]
  refine ⟨if h : vs'.toArray.size = 1 then vs'.toArray[0] else .tuple vs'.toArray, ?_, ?_⟩
  · simp only [Sem.run_bind, Sem.run_map, h1, Result.andThen_ok, Sem.run_pure]
  · unfold tupleOf
    split
    · obtain ⟨z, rfl, hz⟩ := h2.singleton
      simpa using hz
    · rename_i hne
      have hl := h2.length
      rw [dif_neg]
      · exact .tuple (by simpa using h2)
      · intro h1
        have : vs'.length = 1 := by simpa using h1
        match vs, hl with
        | [v], _ => exact hne v rfl
        | [], hl => simp at hl; omega
        | _ :: _ :: _, hl => simp at hl; omega

/-! ### Arguments -/
theorem argsT_get (K : List Nat) : ∀ (args : List Value) (i t : Nat) (v : Value), Tget (argsT K i args) t = some v → i ≤ t ∧ args[t - i]? = some v ∧ t ∈ K
  | [], i, t, v, h => by simp [argsT, Tget] at h
  | x :: r, i, t, v, h => by
    simp only [argsT] at h
    cases hm : memN i K with
    | true =>
      rw [hm] at h; simp only [Tget_cons] at h
      split at h
      · rename_i e; subst e
        exact ⟨Nat.le_refl _, by simpa using h, (memN_iff i K).1 hm⟩
      · obtain ⟨h1, h2, h3⟩ := argsT_get K r (i + 1) t v h
        refine ⟨by omega, ?_, h3⟩
        rw [show t - i = (t - (i + 1)) + 1 by omega]; simpa using h2
    | false =>
      rw [hm] at h
      obtain ⟨h1, h2, h3⟩ := argsT_get K r (i + 1) t v h
      refine ⟨by omega, ?_, h3⟩
      rw [show t - i = (t - (i + 1)) + 1 by omega]; simpa using h2

/-! ### On the way out -/
theorem put_free {fl : Nat} {ι ι' : Inj} {s s1 : St} {w w1 : World} (hS : SRel P ι' s1 w1) (hp : Post fl ι s w ι' s1 w1) {r : Nat} (hr : ∀ b R, ι' b = some R → R.r ≠ r) (hw : w.heap.size ≤ r) (o : Obj) :
    SRel P ι' s1 (w1.putObj r o) ∧ Post fl ι s w ι' s1 (w1.putObj r o) := by
  have hh : ∀ k, k ≠ r → (w1.putObj r o).heap[k]? = w1.heap[k]? := fun k hk => putObj_other w1 o hk
  refine ⟨⟨fun b x R hb hi => ?_, fun b x R hb hi => ?_, hS.inj, fun b R hb => ?_, hS.dis⟩, ⟨hp.k, hp.old, hp.rng, ?_, fun k hk H => ?_, hp.unreal, hp.flr, hp.imm, hp.dead, hp.wf, hp.same⟩⟩
  · rw [hh _ (hr b R hi)]; exact hS.hm b x R hb hi
  · rw [hh _ (hr b R hi)]; exact hS.hi b x R hb hi
  · rw [putObj_size]; exact hS.bnd b R hb
  · rw [putObj_size]; exact hp.size
  · rw [hh _ (by omega)]; exact hp.frame k hk H
theorem leaves {fl : Nat} {ι ι' : Inj} {s s1 : St} {w : World} {fn : Func} {tmps : Array Value} {R : Ending → World → Prop}
    (hfin : ∀ w2, SRel P ι' s1 w2 → Post fl ι s w ι' s1 w2 → ∃ v, (results fn tmps).run P w2 = .ok v w2 ∧ R (.returned v) w2) : ∀ (rs : List Nat) (w1 : World), SRel P ι' s1 w1 → Post fl ι s w ι' s1 w1 →
      rs.Nodup → (∀ r ∈ rs, w.heap.size ≤ r ∧ w1.heap[r]? = some (.deferred (some [])) ∧ ∀ b R, ι' b = some R → R.r ≠ r) →
      LeavesInM Fence.wide 0 P fn tmps R (rs.map (fun r => { target := .collected r, args := #[] })) .returning w1
  | [], w1, hS, hp, _, _ => by
    simp only [List.map_nil, LeavesInM, LeavesIn]
    exact hfin w1 hS hp
  | r :: rs, w1, hS, hp, hn, hr => by
    obtain ⟨h1, h2, h3⟩ := hr r (by simp)
    obtain ⟨g1, g2⟩ := put_free hS hp h3 h1 (.deferred none)
    have hn' := List.nodup_cons.1 hn
    simp only [List.map_cons, LeavesInM]
    refine ⟨by simp, .inl ⟨r, w1.putObj r (.deferred none), rfl, run_takeDeferred h2, ?_⟩⟩
    refine leaves hfin rs _ g1 g2 hn'.2 fun x hx => ?_
    obtain ⟨q1, q2, q3⟩ := hr x (by simp [hx])
    have hne : x ≠ r := fun h => hn'.1 (h ▸ hx)
    exact ⟨q1, by rw [putObj_other w1 _ hne]; exact q2, q3⟩
end Go.Ev
/- Function values: the evaluator is sound. -/
namespace Go.Ev
variable {P : Program} {F : Fence}
/-! ### A pure call -/
theorem fold_hi (m : Trie LObj) : ∀ (l : List Nat) (h : Trie LObj) (b : Nat), (l.foldl (fun h b => match m.get b with | some o => h.set b (some o) | none => h) h).get b = (if b ∈ l then (match m.get b with | some o => some o | none => h.get b) else h.get b)
  | [], h, b => by simp
  | x :: l, h, b => by
    rw [List.foldl_cons, fold_hi m l]
    by_cases hb : b = x
    · subst hb
      cases hm : m.get b with
      | none => simp
      | some o => simp
    · have e : (match m.get x with | some o => h.set x (some o) | none => h).get b = h.get b := by
        split
        · rw [Trie.get_set_ne _ _ hb]
        · rfl
      rw [e]
      simp [hb]
theorem settle_hi (s s1 : St) (b : Nat) : (settle s s1).hi.get b = (if s.k ≤ b ∧ b < s1.k then (match s1.hm.get b with | some o => some o | none => s1.hi.get b) else s1.hi.get b) := by
  refine (fold_hi s1.hm (List.range' s.k (s1.k - s.k)) s1.hi b).trans ?_
  by_cases h : s.k ≤ b ∧ b < s1.k
  · rw [if_pos h, if_pos (by simp [List.mem_range'_1]; omega)]
  · rw [if_neg h, if_neg (by simp [List.mem_range'_1]; omega)]
theorem settle_rel {fl : Nat} {ι ι' : Inj} {s s1 : St} {w w1 : World} (hwf : LWF s) (hS : SRel P ι' s1 w1) (hp : Post s.k ι s w ι' s1 w1) : SRel P ι' (settle s s1) w1 ∧ Post fl ι s w ι' (settle s s1) w1 := by
  have hlow : ∀ b, s.hm.get b ≠ none → b < s.k := fun b hb => Classical.byContradiction fun h => hb (hwf b (by omega)).1
  have hm : ∀ b, (settle s s1).hm.get b = s.hm.get b := fun b => rfl
  have hsame : ∀ b, s.hm.get b ≠ none → s1.hm.get b = s.hm.get b := fun b hb => hp.flr b (hlow b hb)
  have hlive : ∀ b, (settle s s1).hi.get b ≠ none → s1.hm.get b ≠ none ∨ s1.hi.get b ≠ none := by
    intro b hb
    rw [settle_hi] at hb
    split at hb
    · split at hb
      · rename_i o ho; left; rw [ho]; simp
      · exact .inr hb
    · exact .inr hb
  refine ⟨⟨fun b x R hb hi => ?_, fun b x R hb hi => ?_, fun b b' R R' h1 h2 hb hb' hr => ?_, hS.bnd, fun b hb => ?_⟩, ⟨hp.k, hp.old, fun b R h1 h2 hb => ?_, hp.size, fun r hr _ => ?_, fun b hb hn => ?_, fun b hb => rfl, fun b o ho => ?_, fun b hb hn => hn, fun b hb => ?_, hp.same⟩⟩
  · rw [hm] at hb
    exact hS.hm b x R (by rw [hsame b (by rw [hb]; simp)]; exact hb) hi
  · rw [settle_hi] at hb
    split at hb
    · split at hb
      · rename_i o ho
        simp only [Option.some.injEq] at hb; subst hb
        exact (hS.hm b _ R ho hi).imm
      · exact hS.hi b x R hb hi
    · exact hS.hi b x R hb hi
  · rw [hm] at h1
    refine hS.inj b b' R R' (by rw [hsame b h1]; exact h1) ?_ hb hb' hr
    rcases h2 with h2 | h2
    · rw [hm] at h2; left; rw [hsame b' h2]; exact h2
    · exact hlive b' h2
  · rw [hm] at hb
    rw [settle_hi, if_neg (by have := hlow b hb; omega)]
    exact hS.dis b (by rw [hsame b hb]; exact hb)
  · rcases hp.rng b R h1 h2 hb with h | ⟨b0, _, _, _, h4, h5⟩
    · exact .inl h
    · exact absurd (hwf b0 h4).1 h5
  · refine hp.frame r hr fun b R _ _ => ?_
    by_cases h : b < s.k
    · exact .inl h
    · exact .inr (hwf b (by omega)).1
  · refine ⟨rfl, ?_⟩
    rw [settle_hi, if_neg (by omega)]
    exact (hp.unreal b hb hn).2
  · have hb : b < s.k := Classical.byContradiction fun h => by rw [(hwf b (by omega)).2] at ho; cases ho
    rw [settle_hi, if_neg (by omega)]
    exact hp.imm b o ho
  · have hb' : s1.k ≤ b := hb
    have := hp.wf b hb'
    rw [settle_hi, if_neg (by omega)]
    exact ⟨(hwf b (by have := hp.k; omega)).1, this.2⟩
section
variable {C : Cfg} {E : Evs} (hO : CfgOk P C) (hKm : KMono E) (hV : SoundV P E) (hC : SoundC P E.c)
 include hO hKm hC
theorem fun_ok {fl f : Nat} {args : List Value} {s s' : St} {v : Value} (hprim : C.prim f = none) (h : eBody C E fl f args s (C.funcs f) = some (v, s')) {ι : Inj} {w : World} {args' : Array Value} (ha : VRels ι args args'.toList) (hS : SRel P ι s w) (hF : Fresh ι s s'.k) (hfl : fl ≤ s.k) :
    NextOK P fl ι s w (some v) s' ((callFunc f args').run P w) := by
  have _ := hKm
  cases hfun : C.funcs f with
  | none => rw [hfun] at h; simp [eBody] at h
  | some L =>
    rw [hfun] at h
    obtain ⟨fn, c, q1, q2, q3, q4, q5, q6⟩ := hO.funcs f L hprim hfun
    simp only [eBody] at h
    split at h
    case isFalse => cases h
    rename_i hlen
    rw [callFunc_run q1 q2 q3]
    refine .enter (callsIn_of_wp_marks q1 q2 trivial ?_)
    have hal : args.length = args'.size := by simpa using ha.length
    -- what comes out of the text
    cases hb : E.c (if C.pure f = true then s.k else fl) f L.body (argsT L.K 0 args) s with
    | none => rw [hb] at h; simp [eFEnd] at h
    | some r =>
      obtain ⟨x, T, s1⟩ := r
      rw [hb] at h
      have hres : ∃ vs, resVs s1 T L.res = some vs ∧ v = tupleOf vs ∧ s' = (if C.pure f = true then settle s s1 else s1) ∧ (x = .normal ∨ x = .ret) := by
        cases x with
        | exit id => simp [eFEnd] at h
        | normal =>
          simp only [eFEnd] at h
          split at h
          · rename_i vs hvs
            simp only [Option.some.injEq, Prod.mk.injEq] at h
            exact ⟨vs, hvs, h.1.symm, h.2.symm, .inl rfl⟩
          · cases h
        | ret =>
          simp only [eFEnd] at h
          split at h
          · rename_i vs hvs
            simp only [Option.some.injEq, Prod.mk.injEq] at h
            exact ⟨vs, hvs, h.1.symm, h.2.symm, .inr rfl⟩
          · cases h
      obtain ⟨vs, hvs, rfl, hs', hx⟩ := hres
      have hk : s'.k = s1.k := by rw [hs']; split <;> rfl
      rw [hk] at hF
      have hsz : (args' ++ Array.replicate (fn.ntmps - args'.size) undef).size = L.n := by simp; omega
      refine hC _ _ _ _ _ _ _ _ hb L.n L.K w.heap.size c ι _ w Fence.wide _ q5 (.inl rfl) (.inl rfl) ?_ ?_ hsz hS hF (by split <;> omega) (Nat.le_refl _) ⟨[], rfl, List.nodup_nil, fun r hr => by cases hr⟩ ?_
      · intro t u hu; exact (argsT_get _ _ _ _ _ hu).2.2
      · intro t u hu
        obtain ⟨_, h2, _⟩ := argsT_get _ _ _ _ _ hu
        obtain ⟨u', g1, g2⟩ := ha.get t u (by simpa using h2)
        refine ⟨u', ?_, g2⟩
        have hlt : t < args'.size := by
          have := (List.getElem?_eq_some_iff.1 g1).1; simpa using this
        rw [Array.getElem?_append_left hlt]; simpa using g1
      · rintro a1 w1 ⟨ι1, p1, sr1, e1, _, _, rs, hrs, hnd, hr⟩
        have hleave : LeavesInM Fence.wide 0 P fn a1.tmps (Ret P fl ι s w (some (tupleOf vs)) s') a1.defers .returning w1 := by
          rw [hrs]
          refine leaves (fl := if C.pure f = true then s.k else fl) (ι := ι) (ι' := ι1) (s := s) (s1 := s1) (w := w) ?_ rs w1 sr1 p1 hnd hr
          intro w2 sr2 p2
          obtain ⟨v', g1, g2⟩ := results_run e1 sr2 q6 hvs
          refine ⟨v', g1, v', rfl, ι1, ?_⟩
          by_cases hp : C.pure f = true
          · rw [if_pos hp] at p2 hs'
            obtain ⟨z1, z2⟩ := settle_rel (P := P) (fl := fl) hF.wf sr2 p2
            rw [hs']
            exact ⟨z2, z1, fun x hx => by cases hx; exact g2⟩
          · rw [if_neg hp] at p2 hs'
            rw [hs']
            exact ⟨p2, sr2, fun x hx => by cases hx; exact g2⟩
        rcases hx with rfl | rfl <;> exact hleave
end
theorem putAll_rel {ι : Inj} {K : List Nat} : ∀ {ps : List Nat} {args : List Value} {T T1 : Tmps} {tmps : Array Value} {args' : List Value}, putAll ps args T = some T1 → VRels ι args args' → TRel ι T tmps → keysIn T K → (∀ p ∈ ps, p < tmps.size ∧ p ∈ K) →
    TRel ι T1 ((ps.zip args').foldl (fun tm (p : Nat × Value) => tm.setIfInBounds p.1 p.2) tmps) ∧ keysIn T1 K ∧ ((ps.zip args').foldl (fun tm (p : Nat × Value) => tm.setIfInBounds p.1 p.2) tmps).size = tmps.size ∧ ps.length = args'.length
  | [], [], T, T1, tmps, _, h, .nil, hE, hK, _ => by
    simp only [putAll, Option.some.injEq] at h; subst h
    exact ⟨hE, hK, rfl, rfl⟩
  | p :: ps, v :: vs, T, T1, tmps, _, h, .cons (v' := v') (l' := l') hv hvs, hE, hK, hp => by
    simp only [putAll] at h
    have h0 := hp p (by simp)
    have hE1 : TRel ι (Tput T p v) (tmps.setIfInBounds p v') := by
      intro t u hu
      rw [Tget_Tput] at hu
      split at hu
      · rename_i e; subst e
        simp only [Option.some.injEq] at hu; subst hu
        exact ⟨v', by simp [h0.1], hv⟩
      · rename_i e
        obtain ⟨u', g1, g2⟩ := hE t u hu
        exact ⟨u', by rw [Array.getElem?_setIfInBounds_ne e]; exact g1, g2⟩
    have hK1 : keysIn (Tput T p v) K := by
      intro t u hu
      rw [Tget_Tput] at hu
      split at hu
      · rename_i e; subst e; exact h0.2
      · exact hK t u hu
    obtain ⟨g1, g2, g3, g4⟩ := putAll_rel h hvs hE1 hK1 (fun q hq => by simpa using hp q (by simp [hq]))
    exact ⟨by simpa using g1, g2, by simpa using g3, by simp [g4]⟩
  | [], _ :: _, _, _, _, _, h, _, _, _, _ => by simp [putAll] at h
  | _ :: _, [], _, _, _, _, h, _, _, _, _ => by simp [putAll] at h
theorem setLoop_inv {s s' : St} {l was st : Nat} {pend : Option LCode} (h : setLoop s l was st pend = some s') : ∃ T ps a b fn, s.hm.get l = some (.loop was T ps a b fn none) ∧ s' = { s with hm := s.hm.set l (some (.loop st T ps a b fn pend)) } := by
  unfold setLoop at h
  split at h
  · rename_i st0 T ps a b fn hg
    split at h
    · rename_i e; subst e
      simp only [Option.some.injEq] at h
      exact ⟨T, ps, a, b, fn, hg, h.symm⟩
    · cases h
  · cases h
end Go.Ev
/- The evaluator is sound. -/
namespace Go.Ev
variable {P : Program} {F : Fence}
section
variable {C : Cfg} {E : Evs} (hKm : KMono E) (hC : SoundC P E.c)
 include hKm hC
theorem yield_ok {fl l : Nat} {args : List Value} {s s' : St} {v : Value} (h : eYield E fl l args s (s.hm.get l) = some (v, s')) {ι : Inj} {w : World} {R : Real} (hR : ι l = some R) {args' : Array Value} (ha : VRels ι args args'.toList) (hS : SRel P ι s w) (hF : Fresh ι s s'.k) (hflk : fl ≤ s.k) :
    NextOK P fl ι s w (some v) s' ((Deferred.ofValue (.func (.yield R.r) #[] #[]) args' >>= fun d => invoke d.target d.args).run P w) := by
  unfold eYield at h
  split at h
  case h_2 => cases h
  rename_i ob T ps a b fn hg
  split at h
  case isFalse => cases h
  rename_i hfl
  unfold eRound at h
  split at h
  case h_2 => cases h
  rename_i oT T1 hput
  unfold eRoundBody at h
  split at h
  case h_2 => cases h
  rename_i o2 T2 s2 he2
  split at h
  case h_2 => cases h
  rename_i o3 s3 hs3
  cases he4 : E.c fl fn b T2 s3 with
  | none => rw [he4] at h; simp [eRoundEnd] at h
  | some r4 =>
    obtain ⟨x, T3, s4⟩ := r4
    rw [he4] at h
    have hend : ∃ st pend jump, setLoop s4 l 1 st pend = some s' ∧ v = .bool jump.isNone ∧ PendRel pend jump ∧ lstate st = (if jump.isNone then .ready else .done) ∧
        (∀ Rr a w, (∃ v w', (Instr.endRound R.r jump).run P w = .ok v w' ∧ Rr (.returned v) w') → roundPost P R.r Rr (toE x) a w) := by
      cases x with
      | normal =>
        simp only [eRoundEnd] at h
        split at h
        · rename_i s5 hs5
          simp only [Option.some.injEq, Prod.mk.injEq] at h; obtain ⟨rfl, rfl⟩ := h
          exact ⟨0, none, none, hs5, rfl, .none, rfl, fun _ _ _ h => h⟩
        · cases h
      | ret =>
        simp only [eRoundEnd] at h
        split at h
        · rename_i s5 hs5
          simp only [Option.some.injEq, Prod.mk.injEq] at h; obtain ⟨rfl, rfl⟩ := h
          exact ⟨2, some .ret, some .ret, hs5, rfl, .ret, rfl, fun _ _ _ h => h⟩
        · cases h
      | exit id =>
        simp only [eRoundEnd] at h
        split at h
        · rename_i s5 hs5
          simp only [Option.some.injEq, Prod.mk.injEq] at h; obtain ⟨rfl, rfl⟩ := h
          exact ⟨2, some (.exit id), some (.exit id), hs5, rfl, .exit id, rfl, fun _ _ _ h => h⟩
        · cases h
    obtain ⟨st, pend, jump, hs5, rfl, hpd, hst, hround⟩ := hend
    obtain ⟨Ta, psa, aa, ba, fna, hga, rfl⟩ := setLoop_inv hs3
    obtain ⟨Tb, psb, ab, bb, fnb, hgb, rfl⟩ := setLoop_inv hs5
    have hk1 := hKm.c _ _ _ _ _ _ _ _ he2
    have hk2 := hKm.c _ _ _ _ _ _ _ _ he4
    have hk2' : s2.k ≤ s4.k := hk2
    have hF' : Fresh ι s s4.k := hF
    obtain ⟨L, K, g1, g2, g3, g4, g5, g6, g7, g8, g9, g10, g11⟩ := hS.hm _ _ _ hg hR
    have hlk : l < s.k := Classical.byContradiction fun hx => by rw [(hF.wf l (by omega)).1] at hg; cases hg
    obtain ⟨z1, z2, z3, z4⟩ := putAll_rel hput ha g3 g4 g7
    have hsz : args'.size = L.params.size := by
      have : L.params.toList.length = args'.toList.length := by rw [g2]; exact z4
      simpa using this.symm
    have hfold : (L.params.zip args').foldl (fun tmps (x : Nat × Value) => tmps.setIfInBounds x.1 x.2) L.tmps = (ps.zip args'.toList).foldl (fun tm (p : Nat × Value) => tm.setIfInBounds p.1 p.2) L.tmps := by
      rw [← Array.foldl_toList, Array.toList_zip, g2]
    have hrun : (Deferred.ofValue (.func (.yield R.r) #[] #[]) args' >>= fun d => invoke d.target d.args).run P w = .ok (.round R.r L.fn ((ps.zip args'.toList).foldl (fun tm (p : Nat × Value) => tm.setIfInBounds p.1 p.2) L.tmps) L.assign L.body) w := by
      have e1 : (#[] ++ args' : Array Value) = args' := by simp
      simp only [Deferred.ofValue, Sem.run_bind, Sem.run_pure, Result.andThen_ok, invoke, e1, run_yield g1 hsz]
      rw [← hfold]
    rw [hrun]
    refine .round (roundIn_of_wpIn trivial ?_)
    refine hC _ _ _ _ _ _ _ _ he2 L.tmps.size K 0 L.assign ι _ w (Fence.wide.inRound R.r) _ g5 (.inr ⟨_, rfl⟩) (.inr g10) z2 z1 z3 hS (hF'.left (by omega)) hflk (Nat.zero_le _) ⟨[], rfl, List.nodup_nil, fun r hr => by cases hr⟩ ?_
    rintro a1 w1 ⟨ι1, p1, sr1, e1, k1, n1, m1⟩
    have hR1 : ι1 l = some R := by rw [p1.old l (.inl hlk)]; exact hR
    obtain ⟨L2, K2, y1, y2, y3, y4, y5, y6, y7, y8, y9, y10, y11⟩ := sr1.hm _ _ _ hga hR1
    have hF1 : Fresh ι1 s2 s2.k := ⟨p1.wf, fun b a b' => by omega⟩
    obtain ⟨r1, r2⟩ := upd_rel (P := P) (fl := fl) sr1 hF1 hga hfl hR1 (some (.loop 1 Ta psa aa ba fna none)) (.loop { L2 with state := .busy }) (fun x hx => by
      cases hx
      exact ⟨_, K2, rfl, y2, y3, y4, y5, y6, y7, rfl, y9, y10, y11⟩)
    refine ⟨_, run_beginRound y1 y8, ?_⟩
    have p2 := p1.trans r1
    refine hC _ _ _ _ _ _ _ _ he4 L.tmps.size K 0 L.body ι1 a1 _ (Fence.wide.inRound R.r) _ g6 (.inr ⟨_, rfl⟩) (.inr g11) k1 e1 n1 r2 (hF'.right p2) (Nat.le_trans hflk hk1) (Nat.zero_le _) (m1.post r1) ?_
    rintro a2 w2 ⟨ι2, p3, sr3, e3, k3, n3, m3⟩
    have hR2 : ι2 l = some R := by rw [p3.old l (.inl (Nat.lt_of_lt_of_le hlk hk1))]; exact hR1
    obtain ⟨L4, K4, x1, x2, x3, x4, x5, x6, x7, x8, x9, x10, x11⟩ := sr3.hm _ _ _ hgb hR2
    have hF3 : Fresh ι2 s4 s4.k := ⟨p3.wf, fun b a b' => by omega⟩
    obtain ⟨t1, t2⟩ := upd_rel (P := P) (fl := fl) sr3 hF3 hgb hfl hR2 (some (.loop st Tb psb ab bb fnb pend)) (.loop { L4 with state := if jump.isNone then .ready else .done, pending := jump }) (fun x hx => by
      cases hx
      exact ⟨_, K4, rfl, x2, x3, x4, x5, x6, x7, hst.symm, hpd, x10, x11⟩)
    refine hround _ a2 w2 ⟨_, _, run_endRound jump x1, _, rfl, ι2, (p2.trans p3).trans t1, t2, fun y hy => ?_⟩
    cases hy; exact .bool _
end
section
variable {C : Cfg} {E : Evs} (hO : CfgOk P C) (hKm : KMono E)
 include hO hKm
theorem eOps_of {fl : Nat} : ∀ {l : List LOper} {e e' : Env} {s s' : St} {tr : Trail}, eOpsD E fl l e s = some (e', s', tr) → eOps E fl l e s = some (e', s')
  | [], e, e', s, s', tr, h => by
    have _ := hO; have _ := hKm
    simp only [eOpsD, Option.some.injEq, Prod.mk.injEq] at h; obtain ⟨rfl, rfl, _⟩ := h; rfl
  | o :: r, e, e', s, s', tr, h => by
    simp only [eOpsD] at h
    split at h
    · rename_i e1 s1 h1
      split at h
      · rename_i h2
        simp only [Option.some.injEq, Prod.mk.injEq] at h; obtain ⟨rfl, rfl, _⟩ := h
        simp only [eOps, h1]; exact eOps_of h2
      · cases h
    · cases h
theorem setLoop_k {s s' : St} {l was st : Nat} {pend : Option LCode} (h : setLoop s l was st pend = some s') : s'.k = s.k := by
  have _ := hO; have _ := hKm
  obtain ⟨_, _, _, _, _, _, rfl⟩ := setLoop_inv h; rfl
theorem build_k : KMono (build C E) := by
  constructor
  · intro fl g args s v s' h
    have h : eV C E fl g args s = some (v, s') := h
    unfold eV at h
    split at h
    · rename_i f fi cp
      unfold eF at h
      split at h
      · rename_i p hp
        exact (hO.prim _ _ hp _ _ _ _ _ h).1
      · unfold eBody at h
        split at h
        · cases h
        · split at h
          · unfold eFEnd at h
            split at h
            · cases h
            · cases h
            · rename_i hc
              have := hKm.c _ _ _ _ _ _ _ _ hc
              split at h
              · simp only [Option.some.injEq, Prod.mk.injEq] at h
                rw [← h.2]; split <;> exact this
              · cases h
          · cases h
    · unfold eYield at h
      split at h
      · split at h
        · unfold eRound at h
          split at h
          · unfold eRoundBody at h
            split at h
            · rename_i hc
              have k1 := hKm.c _ _ _ _ _ _ _ _ hc
              split at h
              · rename_i hs3
                have k2 := setLoop_k hO hKm hs3
                unfold eRoundEnd at h
                split at h
                all_goals first
                  | (cases h; done)
                  | (rename_i hc4
                     have k3 := hKm.c _ _ _ _ _ _ _ _ hc4
                     split at h
                     · rename_i hs5
                       have k4 := setLoop_k hO hKm hs5
                       simp only [Option.some.injEq, Prod.mk.injEq] at h
                       rw [← h.2]; omega
                     · cases h)
              · cases h
            · cases h
          · cases h
        · cases h
      · cases h
    · cases h
  · intro fl fn c T s x T' s' h
    have h : eC C E fl fn c T s = some (x, T', s') := h
    have hthen : ∀ {b : LCode} {r : Option (Xit × Tmps × St)}, eThen E fl fn b r = some (x, T', s') → (∀ x1 T1 s1, r = some (x1, T1, s1) → s.k ≤ s1.k) → s.k ≤ s'.k := by
      intro b r h hr
      unfold eThen at h
      split at h
      · rename_i T1 s1
        exact Nat.le_trans (hr _ _ _ rfl) (hKm.c _ _ _ _ _ _ _ _ h)
      · exact hr _ _ _ h
    cases c with
    | skip => simp only [eC, Option.some.injEq, Prod.mk.injEq] at h; rw [← h.2.2]; exact Nat.le_refl _
    | exit => simp only [eC, Option.some.injEq, Prod.mk.injEq] at h; rw [← h.2.2]; exact Nat.le_refl _
    | ret => simp only [eC, Option.some.injEq, Prod.mk.injEq] at h; rw [← h.2.2]; exact Nat.le_refl _
    | region ops ps =>
      simp only [eC] at h
      cases ps with
      | nil =>
        simp only [eReg] at h
        unfold eRegion at h
        split at h
        · rename_i hc
          simp only [Option.some.injEq, Prod.mk.injEq] at h; rw [← h.2.2]; exact eOps_k hKm hc
        · cases h
      | cons p ps =>
        simp only [eReg] at h
        unfold eRegionD at h
        split at h
        · rename_i hc
          split at h
          · simp only [Option.some.injEq, Prod.mk.injEq] at h; rw [← h.2.2]; exact eOps_k hKm (eOps_of hO hKm hc)
          · cases h
        · cases h
    | seq a b => exact hthen h fun _ _ _ hr => hKm.c _ _ _ _ _ _ _ _ hr
    | loop kill b => exact hthen h fun _ _ _ hr => hKm.c _ _ _ _ _ _ _ _ hr
    | cond c a b =>
      simp only [eC] at h
      unfold eCond at h
      split at h
      · exact hKm.c _ _ _ _ _ _ _ _ h
      · cases h
    | block id b =>
      simp only [eC] at h
      unfold eBlock at h
      split at h
      · rename_i hc
        have := hKm.c _ _ _ _ _ _ _ _ hc
        split at h <;> (simp only [Option.some.injEq, Prod.mk.injEq] at h; rw [← h.2.2]; exact this)
      · exact hKm.c _ _ _ _ _ _ _ _ h
    | rangeFunc g ps a b =>
      simp only [eC] at h
      unfold eRange at h
      split at h
      · split at h
        · unfold eRangeEnd at h
          split at h
          · rename_i hc
            have k1 := hKm.v _ _ _ _ _ _ hc
            have k1' : s.k + 1 ≤ _ := k1
            split at h
            · simp only [Option.some.injEq, Prod.mk.injEq] at h; rw [← h.2.2]; show s.k ≤ _; exact Nat.le_trans (Nat.le_succ _) k1'
            · have k2 := hKm.c _ _ _ _ _ _ _ _ h
              exact Nat.le_trans (Nat.le_trans (Nat.le_succ _) k1') k2
            · cases h
          · cases h
        · cases h
      · cases h
end
theorem build_v {C : Cfg} {E : Evs} (hO : CfgOk P C) (hKm : KMono E) (hC : SoundC P E.c) : SoundV P (build C E) := by
  intro fl g args s v s' h ι w g' args' hg ha hS hF hfl
  replace h : eV C E fl g args s = some (v, s') := h
  unfold eV at h
  split at h
  · rename_i f fi cp
    cases hg with
    | func h1 h2 =>
      rename_i fi' cp'
      have hargs : VRels ι (fi.toList ++ args ++ cp.toList) (fi' ++ args' ++ cp').toList := by
        simpa using (h1.append ha).append h2
      have hrun : (Deferred.ofValue (.func (.func f) fi' cp') args' >>= fun d => invoke d.target d.args).run P w = (callFunc f (fi' ++ args' ++ cp')).run P w := by
        simp only [Deferred.ofValue, Sem.run_bind, Sem.run_pure, Result.andThen_ok, invoke]
      rw [hrun]
      unfold eF at h
      split at h
      · rename_i p hp
        exact (hO.prim _ _ hp _ _ _ _ _ h).2 ι w _ hargs hS hF hfl
      · rename_i hp
        exact fun_ok hO hKm hC hp h hargs hS hF hfl
  · rename_i l fi cp
    cases hg with
    | yield hR => exact yield_ok hKm hC h hR ha hS hF hfl
  · cases h
/-- **THE EVALUATOR IS SOUND.** -/
theorem sound {C : Cfg} (hO : CfgOk P C) : ∀ n, KMono (mk C n) ∧ SoundV P (mk C n) ∧ SoundC P (mk C n).c ∧ SoundL P (mk C n).c n := by
  intro n
  induction n with
  | zero =>
    exact ⟨⟨fun _ _ _ _ _ _ h => (by cases h), fun _ _ _ _ _ _ _ _ h => (by cases h)⟩, fun _ _ _ _ _ _ h => (by cases h), fun _ _ _ _ _ _ _ _ h => (by cases h), fun _ _ _ _ _ _ _ _ _ h => (by cases h)⟩
  | succ n ih =>
    obtain ⟨hK, hV, hC, hL⟩ := ih
    refine ⟨build_k hO hK, build_v hO hK hC, ?_, loop_ok hK hC hL⟩
    intro fl fn c T s x T' s' h N K B code ι a w F Q hcr hFk hfl hT hE ha hS hF hflk hB hM hQ
    cases hno : noR c with
    | true => exact code_ok hO hK hV hC hL hno h N K B code ι a w F Q hcr hFk hfl hT hE ha hS hF hflk hB hM hQ
    | false =>
      cases c <;> simp [noR] at hno
      exact range_ok hO hK hV hC h N K B code ι a w F Q hcr hFk hfl hT hE ha hS hF hflk hB hM hQ
/-- A run of a function by the evaluator, in a world of which nothing is known. -/
theorem calls_of {C : Cfg} (hO : CfgOk P C) {n f : Nat} {v : Value} {s' : St} (hf : ∃ fn c, P.funcs[f]? = some fn ∧ fn.body = some c ∧ fn.name ≠ "runtime.NumGoroutine") (h : (mk C n).v 0 (.func (.func f) #[] #[]) [] ⟨.leaf, .leaf, 0⟩ = some (v, s')) (hc : ∀ (v' : Value) (ι : Inj), VRel ι v v' → v' = v) (w : World) :
    Calls P f #[] w fun e w' => e = .returned v ∧ RowKit.Below w.heap.size w w' := by
  obtain ⟨fn, c, h1, h2, h3⟩ := hf
  have := (sound hO n).2.1 _ _ _ _ _ _ h (fun _ => none) w (.func (.func f) #[] #[]) #[] (.func .nil .nil) .nil (bare_srel (fun b R hb => by cases hb) 0) ⟨fun b _ => by simp, fun b _ _ => rfl⟩ (Nat.le_refl _)
  have hrun : (Deferred.ofValue (.func (.func f) #[] #[]) #[] >>= fun d => invoke d.target d.args).run P w = .ok (.enter f #[]) w := by
    simp only [Deferred.ofValue, Sem.run_bind, Sem.run_pure, Result.andThen_ok, invoke]
    exact callFunc_run h1 h2 h3 _ _
  rw [hrun] at this
  cases this with
  | enter hh =>
    refine callsIn_wide.1 (hh.mono ?_)
    rintro e w' ⟨u, rfl, ι', p1, p2, p3⟩
    refine ⟨by rw [hc u ι' (p3 v rfl)], p1.same.1, p1.same.2.1, p1.same.2.2, p1.size, fun k hk => p1.frame k hk fun b R hb => by cases hb⟩
end Go.Ev
/- From the compiled text to the relation that the proof asks for. -/
namespace Go.Ev
variable {P : Program}
def chkOps (N : Nat) : List LOper → Bool
  | [] => true
  | o :: r => lopOk o.op && (match o.dst with | some d => Nat.blt d N | none => true) && chkOps N r
def chk (N : Nat) (K : List Nat) : LCode → Bool
  | .region ops _ => chkOps N ops
  | .seq a b => chk N K a && chk N K b
  | .cond c a b => opdOk c && chk N K a && chk N K b
  | .block _ b => chk N K b
  | .loop _ b => chk N K b
  | .rangeFunc g ps a b => opdOk g && ps.all (fun p => Nat.blt p N && memN p K) && flat a && flat b && chk N K a && chk N K b
  | _ => true
/-- 'compF', with all that is asked of what comes out. -/
def compG (P : Program) (A : List (Nat × Nat)) (f : Func) : Option LFunc := match compF P A f with
  | some L => if chk L.n L.K L.body = true then some L else none
  | none => none
theorem opers_rel {A : List (Nat × Nat)} {id : Nat} {all : List Oper} {N : Nat} {K : List Nat} : ∀ {r : List Oper} {i : Nat} {l : List LOper}, compOpers P A id all i r = some l → chkOps N (setLocs K l) = true → OpersRel P all N K r (setLocs K l)
  | [], i, l, h, _ => by
    simp only [compOpers, Option.some.injEq] at h; subst h; exact .nil
  | o :: r, i, l, h, hc => by
    simp only [compOpers] at h
    split at h
    · cases h
    · rename_i op hop
      split at h
      · cases h
      · rename_i g hg
        split at h
        · rename_i l' hl'
          simp only [Option.some.injEq] at h; subst h
          simp only [setLocs, chkOps, Bool.and_eq_true] at hc ⊢
          refine .cons (memP id i A) hop hc.1.1 rfl ?_ ?_ ?_ (opers_rel hl' hc.2)
          · intro d hd
            have := hc.1.2
            rw [hd] at this
            simpa [Nat.blt_eq] using this
          · intro d hd
            rw [hd]
            simp only [Bool.not_eq_false']
            exact memN_iff d K
          · cases hgd : o.guard with
            | none => rw [hgd] at hg; simp only [Option.some.injEq] at hg; subst hg; rfl
            | some p =>
              obtain ⟨j, w⟩ := p
              rw [hgd] at hg
              simp only at hg ⊢
              split at hg
              · rename_i d hd
                simp only [Option.some.injEq] at hg; subst hg
                exact ⟨d, hd, rfl⟩
              · cases hg
        · cases h
theorem setLocs_get (K : List Nat) : ∀ (l : List LOper) (i : Nat), (setLocs K l)[i]? = (l[i]?).map fun o => ⟨o.dst, (match o.dst with | some d => !memN d K | none => false), o.op, o.guard⟩
  | [], i => by simp [setLocs]
  | o :: r, 0 => rfl
  | o :: r, i + 1 => by simpa [setLocs] using setLocs_get K r i
theorem setLocs_len (K : List Nat) : ∀ (l : List LOper), (setLocs K l).length = l.length
  | [] => rfl
  | o :: r => by simp [setLocs, setLocs_len K r]
theorem pairsAt_locs (K b : List Nat) (l l' : List LOper) (i : Nat) : ∀ (r : List LOper) (k : Nat), pairsAt b l i (setLocs K r) k = pairsAt b l' i r k
  | [], k => rfl
  | o :: r, k => by
    simp only [setLocs, pairsAt, pairsAt_locs K b l l' i r (k + 1)]
theorem pairsOf_locs (K b : List Nat) (l : List LOper) : ∀ (r : List LOper) (k : Nat), pairsOf b (setLocs K l) (setLocs K r) k = pairsOf b l r k
  | [], k => rfl
  | o :: r, k => by
    simp only [setLocs, pairsOf, pairsOf_locs K b l r (k + 1), pairsAt_locs K b (setLocs K l) l k l 0]
theorem pairFree_locs (K b : List Nat) (l : List LOper) (i j : Nat) : pairFree b (setLocs K l) i j = pairFree b l i j := by
  unfold pairFree
  rw [setLocs_get, setLocs_get]
  cases l[i]? <;> cases l[j]? <;> rfl
theorem drawOk_locs (K b : List Nat) (ops : List Oper) (l : List LOper) : drawOk ops b (setLocs K l) = drawOk ops b l := by
  unfold drawOk
  rw [setLocs_len]
  congr 2
  funext j
  congr 1
  funext i
  exact pairFree_locs K b l i j
theorem flat_loc (K : List Nat) : ∀ (c : LCode), flat (setLoc K c) = flat c := by
  intro c
  induction c with
  | seq a b ha hb => simp [setLoc, flat, ha, hb]
  | cond c a b ha hb => simp [setLoc, flat, ha, hb]
  | block id b hb => simpa [setLoc, flat] using hb
  | loop k b hb => simpa [setLoc, flat] using hb
  | _ => rfl
theorem code_rel {A : List (Nat × Nat)} {N : Nat} {K : List Nat} : ∀ (c : Code) (lc : LCode), comp P A c = some lc → chk N K (setLoc K lc) = true → CR P N K c (setLoc K lc) := by
  intro c
  induction c with
  | skip => intro lc h _; simp only [comp, Option.some.injEq] at h; subst h; exact .skip
  | ret => intro lc h _; simp only [comp, Option.some.injEq] at h; subst h; exact .ret
  | exit id => intro lc h _; simp only [comp, Option.some.injEq] at h; subst h; exact .exit id
  | region id ops d =>
    intro lc h hc
    simp only [comp, compReg] at h
    split at h
    · cases h
    · rename_i l hl
      cases d with
      | false =>
        simp only [Bool.false_eq_true, if_false, Option.some.injEq] at h; subst h
        exact .text (opers_rel hl hc)
      | true =>
        simp only [if_true] at h
        split at h
        · rename_i hd
          simp only [Option.some.injEq] at h; subst h
          simp only [setLoc]
          rw [← pairsOf_locs K _ l l 0]
          exact .draw (opers_rel hl hc) (by rw [drawOk_locs]; exact hd)
        · cases h
  | seq a b ha hb =>
    intro lc h hc
    simp only [comp] at h
    split at h
    · rename_i la lb h1 h2
      simp only [Option.some.injEq] at h; subst h
      simp only [setLoc, chk, Bool.and_eq_true] at hc ⊢
      exact .seq (ha la h1 hc.1) (hb lb h2 hc.2)
    · cases h
  | cond x a b ha hb =>
    intro lc h hc
    simp only [comp] at h
    split at h
    · rename_i la lb h1 h2
      simp only [Option.some.injEq] at h; subst h
      simp only [setLoc, chk, Bool.and_eq_true] at hc ⊢
      exact .cond hc.1.1 (ha la h1 hc.1.2) (hb lb h2 hc.2)
    · cases h
  | block id b hb =>
    intro lc h hc
    simp only [comp] at h
    split at h
    · rename_i lb h2
      simp only [Option.some.injEq] at h; subst h
      exact .block (hb lb h2 hc)
    · cases h
  | loop b hb =>
    intro lc h hc
    simp only [comp] at h
    split at h
    · rename_i lb h2
      simp only [Option.some.injEq] at h; subst h
      exact .loop (hb lb h2 hc)
    · cases h
  | rangeFunc g ps a b ha hb =>
    intro lc h hc
    simp only [comp] at h
    split at h
    · rename_i la lb h1 h2
      simp only [Option.some.injEq] at h; subst h
      simp only [setLoc, chk, Bool.and_eq_true] at hc ⊢
      obtain ⟨⟨⟨⟨⟨c1, c2⟩, c3⟩, c4⟩, c5⟩, c6⟩ := hc
      refine .rangeFunc c1 (fun p hp => ?_) (ha la h1 c5) (hb lb h2 c6) c3 c4
      have := List.all_eq_true.1 c2 p (by simpa using hp)
      simp only [Bool.and_eq_true, Nat.blt_eq] at this
      exact ⟨this.1, (memN_iff p K).1 this.2⟩
    · cases h
  | _ => intro lc h _; simp [comp] at h
theorem res_rel : ∀ {l : List ResultVar} {r : List LRes}, compRes P.toTables l = some r → ResRel P l r
  | [], r, h => by simp only [compRes, Option.some.injEq] at h; subst h; exact .nil
  | .tmp t :: l, r, h => by
    simp only [compRes] at h
    split at h
    · rename_i l' hl
      simp only [Option.some.injEq] at h; subst h; exact .tmp (res_rel hl)
    · cases h
  | .cell a t :: l, r, h => by
    simp only [compRes] at h
    split at h
    · rename_i n l' hn hl
      simp only [Option.some.injEq] at h; subst h; exact .cell hn (res_rel hl)
    · cases h
theorem fun_rel {A : List (Nat × Nat)} {f : Nat} {fn : Func} {L : LFunc} (hf : P.funcs[f]? = some fn) (hn : fn.body.isSome = true → fn.name ≠ "runtime.NumGoroutine") (h : compG P A fn = some L) : FunRel P f L := by
  unfold compG at h
  split at h
  · rename_i L' hL
    split at h
    · rename_i hc
      simp only [Option.some.injEq] at h; subst h
      unfold compF at hL
      split at hL
      · cases hL
      · rename_i c hb
        split at hL
        · rename_i b l hcb hcl
          split at hL
          · simp only [Option.some.injEq] at hL; subst hL
            exact ⟨fn, c, hf, hb, hn (by rw [hb]; rfl), rfl, code_rel c b hcb hc, res_rel hcl⟩
          · cases hL
        · cases hL
    · cases h
  · cases h
/-! ### The test of two readings -/
mutual
def eqVal : Value → Value → Bool
  | .bool a, .bool b => a == b
  | .int k a, .int j b => k == j && a == b
  | .string a, .string b => a.data.toList == b.data.toList
  | .pointer none, .pointer none => true
  | .pointer (some a), .pointer (some b) => a.block == b.block && a.off == b.off && a.spot.isNone && b.spot.isNone
  | .slice none l c, .slice none l' c' => l == l' && c == c'
  | .slice (some a) l c, .slice (some b) l' c' => a.block == b.block && a.off == b.off && a.spot == b.spot && l == l' && c == c'
  | .map a, .map b => a == b
  | .nilFunc, .nilFunc => true
  | .nilIface, .nilIface => true
  | .func (.func f) ⟨a⟩ ⟨c⟩, .func (.func g) ⟨a'⟩ ⟨c'⟩ => f == g && eqVals a a' && eqVals c c'
  | _, _ => false
def eqVals : List Value → List Value → Bool
  | [], [] => true
  | a :: x, b :: y => eqVal a b && eqVals x y
  | _, _ => false
end
def eqRead : Option (List Value) → Option (List Value) → Bool
  | some a, some b => eqVals a b
  | _, _ => false
mutual
theorem eqVal_eq : ∀ (a b : Value), eqVal a b = true → a = b
  | .bool a, b, h => by cases b <;> simp_all [eqVal]
  | .int k a, b, h => by cases b <;> simp_all [eqVal]
  | .string a, b, h => by
    cases b <;> simp only [eqVal, Bool.false_eq_true] at h
    rename_i y
    have : a.data.toList = y.data.toList := by simpa using h
    have : a.data = y.data := Array.toList_inj.1 this
    cases a; cases y; simp_all
  | .pointer none, b, h => by
    cases b with
    | pointer p => cases p <;> simp_all [eqVal]
    | _ => simp [eqVal] at h
  | .pointer (some a), b, h => by
    cases b with
    | pointer p =>
      cases p with
      | none => simp [eqVal] at h
      | some y =>
        simp only [eqVal, Bool.and_eq_true, beq_iff_eq, Option.isNone_iff_eq_none] at h
        obtain ⟨⟨⟨h1, h2⟩, h3⟩, h4⟩ := h
        cases a; cases y; simp_all
    | _ => simp [eqVal] at h
  | .slice none l c, b, h => by
    cases b with
    | slice p _ _ => cases p <;> simp_all [eqVal]
    | _ => simp [eqVal] at h
  | .slice (some a) l c, b, h => by
    cases b with
    | slice p l' c' =>
      cases p with
      | none => simp [eqVal] at h
      | some y =>
        simp only [eqVal, Bool.and_eq_true, beq_iff_eq] at h
        obtain ⟨⟨⟨⟨h1, h2⟩, h3⟩, h4⟩, h5⟩ := h
        cases a; cases y; simp_all
    | _ => simp [eqVal] at h
  | .map a, b, h => by cases b <;> simp_all [eqVal]
  | .nilFunc, b, h => by cases b <;> simp_all [eqVal]
  | .nilIface, b, h => by cases b <;> simp_all [eqVal]
  | .func (.func f) ⟨a⟩ ⟨c⟩, b, h => by
    cases b with
    | func g a' c' =>
      cases g with
      | func g =>
        obtain ⟨a'⟩ := a'; obtain ⟨c'⟩ := c'
        simp only [eqVal, Bool.and_eq_true, beq_iff_eq] at h
        rw [h.1.1, eqVals_eq a a' h.1.2, eqVals_eq c c' h.2]
      | _ => simp [eqVal] at h
    | _ => simp [eqVal] at h
  | .func (.method _) _ _, b, h => by simp [eqVal] at h
  | .func (.methodOf _ _) _ _, b, h => by simp [eqVal] at h
  | .func (.via _ _ _ _) _ _, b, h => by simp [eqVal] at h
  | .func (.yield _) _ _, b, h => by simp [eqVal] at h
  | .float _ _, b, h => by simp [eqVal] at h
  | .complex _ _ _, b, h => by simp [eqVal] at h
  | .chan _, b, h => by simp [eqVal] at h
  | .iface _ _, b, h => by simp [eqVal] at h
  | .agg _, b, h => by simp [eqVal] at h
  | .tuple _, b, h => by simp [eqVal] at h
theorem eqVals_eq : ∀ (a b : List Value), eqVals a b = true → a = b
  | [], b, h => by cases b <;> simp_all [eqVals]
  | x :: a, b, h => by
    cases b with
    | nil => simp [eqVals] at h
    | cons y b =>
      simp only [eqVals, Bool.and_eq_true] at h
      rw [eqVal_eq x y h.1, eqVals_eq a b h.2]
end
theorem eqRead_eq : ∀ (a b : Option (List Value)), eqRead a b = true → a = b
  | some a, some b, h => by rw [eqVals_eq a b h]
  | none, _, h => by cases h
  | some _, none, h => by cases h
/-- The program's functions, compiled. -/
def funsOf (P : Program) (A : Nat → List (Nat × Nat)) (i : Nat) : Option LFunc := match P.funcs[i]? with
  | some f => compG P (A i) f
  | none => none
def cfgOf (P : Program) (A : Nat → List (Nat × Nat)) (prim : Nat → Option Prim) (pure : Nat → Bool) : Cfg := ⟨funsOf P A, prim, pure, eqRead⟩
def namesOk (P : Program) : Bool := P.funcs.toList.all fun f => f.name != "runtime.NumGoroutine"
theorem names_of (h : namesOk P = true) {f : Nat} {fn : Func} (hf : P.funcs[f]? = some fn) : fn.name ≠ "runtime.NumGoroutine" := by
  have := List.all_eq_true.1 h fn (Array.mem_toList_iff.2 (Array.mem_of_getElem? hf))
  simpa using this
theorem cfg_ok {A : Nat → List (Nat × Nat)} {prim : Nat → Option Prim} {pure : Nat → Bool} (hm : P.follows .mixedOrders = true) (hn : namesOk P = true) (hp : ∀ f p, prim f = some p → PrimOk P f p) : CfgOk P (cfgOf P A prim pure) where
  mixed := hm
  eqt := eqRead_eq
  prim := hp
  funcs := fun f L _ h => by
    have h : funsOf P A f = some L := h
    unfold funsOf at h
    split at h
    · rename_i fn hf
      exact fun_rel hf (fun _ => names_of hn hf) h
    · cases h
def outV : Option (Value × St) → Option Value
  | some (v, _) => some v
  | none => none
/-- A closed run that the kernel has made. -/
theorem closed {C : Cfg} (hO : CfgOk P C) (hn : namesOk P = true) {n f : Nat} {fn : Func} {c : Code} (hf : P.funcs[f]? = some fn) (hb : fn.body = some c) {b : Bool} (h : outV ((mk C n).v 0 (.func (.func f) #[] #[]) [] ⟨.leaf, .leaf, 0⟩) = some (.bool b)) (w : World) :
    Calls P f #[] w fun e w' => e = .returned (.bool b) ∧ RowKit.Below w.heap.size w w' := by
  cases hr : (mk C n).v 0 (.func (.func f) #[] #[]) [] ⟨.leaf, .leaf, 0⟩ with
  | none => rw [hr] at h; cases h
  | some p =>
    obtain ⟨v, s'⟩ := p
    rw [hr] at h
    simp only [outV, Option.some.injEq] at h
    subst h
    exact calls_of hO ⟨_, _, hf, hb, names_of hn hf⟩ hr (fun v' ι hv => hv.bool_inv) w
end Go.Ev
/- Functions without a text, and functions told in one step. -/
namespace Go.Ev
variable {P : Program}
theorem prim_ext {f : Nat} {fn : Func} {g : Array Value → Sem Value} {p : Prim} (hf : P.funcs[f]? = some fn) (hn : fn.name ≠ "runtime.NumGoroutine") (hb : fn.body = none) (hx : Extern.findNext fn = none) (he : Extern.find fn = some g)
    (hp : ∀ fl args s v s', p fl args s = some (v, s') → s' = s ∧ ∀ (ι : Inj) (args' : Array Value) (w : World), VRels ι args args'.toList → ∃ v', (g args').run P w = .ok v' w ∧ VRel ι v v') : PrimOk P f p := by
  intro fl args s v s' h
  obtain ⟨rfl, hg⟩ := hp fl args s v s' h
  refine ⟨Nat.le_refl _, fun ι w args' ha hS hF hfl => ?_⟩
  obtain ⟨v', h1, h2⟩ := hg ι args' w ha
  have hrun : (callFunc f args').run P w = .ok (.value v') w := by
    simp [callFunc, hf, hn, hb, hx, he, mark, h1, Sem.run]
  rw [hrun]
  exact .value ⟨ι, Post.refl hF, hS, fun x hx => by cases hx; exact h2⟩
/-! ### Two texts held against one another; sums and differences with a carry -/
def cmpP : Prim := fun _ args s => match args with
  | [.string a, .string b] => some (.int .i64 (Extern.BytealgCompare.cmp a b), s)
  | _ => none
def addP : Prim := fun _ args s => match args with
  | [.int _ x, .int _ y, .int _ c] => if c.toNat ≤ 1 then some (Extern.MathBitsCarry.pair ((x.toNat + y.toNat + c.toNat) % Extern.MathBitsCarry.m64) ((x.toNat + y.toNat + c.toNat) / Extern.MathBitsCarry.m64), s) else none
  | _ => none
def subP : Prim := fun _ args s => match args with
  | [.int _ x, .int _ y, .int _ c] => if c.toNat ≤ 1 then some (Extern.MathBitsCarry.pair ((x.toNat + Extern.MathBitsCarry.m64 - y.toNat - c.toNat) % Extern.MathBitsCarry.m64) (if x.toNat < y.toNat + c.toNat then 1 else 0), s) else none
  | _ => none
theorem vrels2 {ι : Inj} {a b : Value} {args' : Array Value} (h : VRels ι [a, b] args'.toList) : ∃ a' b', args' = #[a', b'] ∧ VRel ι a a' ∧ VRel ι b b' := by
  obtain ⟨l⟩ := args'
  cases h with
  | cons h1 t =>
    cases t with
    | cons h2 t => cases t; exact ⟨_, _, rfl, h1, h2⟩
theorem vrels3 {ι : Inj} {a b c : Value} {args' : Array Value} (h : VRels ι [a, b, c] args'.toList) : ∃ a' b' c', args' = #[a', b', c'] ∧ VRel ι a a' ∧ VRel ι b b' ∧ VRel ι c c' := by
  obtain ⟨l⟩ := args'
  cases h with
  | cons h1 t =>
    cases t with
    | cons h2 t =>
      cases t with
      | cons h3 t => cases t; exact ⟨_, _, _, rfl, h1, h2, h3⟩
theorem compare_two (a b : Value) : Extern.BytealgCompare.compare #[a, b] = (do pure (goInt (Extern.BytealgCompare.cmp (← Extern.Bytes.bytesOf a) (← Extern.Bytes.bytesOf b)))) := rfl
theorem three_of (n : String) (x y c : Value) : Extern.MathBitsCarry.three n #[x, y, c] = (do
    let c := (← asInt c).toNat
    if c > 1 then unsupported (.noEntry ("extern/math/bits." ++ n ++ ": a carry that is neither 0 nor 1"))
    pure ((← asInt x).toNat, (← asInt y).toNat, c)) := rfl
theorem asInt_of (k : IntKind) (n : Int) : asInt (.int k n) = pure n := rfl
theorem cmp_ok {f : Nat} {fn : Func} (hf : P.funcs[f]? = some fn) (hn : fn.name ≠ "runtime.NumGoroutine") (hb : fn.body = none) (hx : Extern.findNext fn = none) (he : Extern.find fn = some Extern.BytealgCompare.compare) : PrimOk P f cmpP := by
  refine prim_ext hf hn hb hx he ?_
  intro fl args s v s' h
  unfold cmpP at h
  split at h
  · simp only [Option.some.injEq, Prod.mk.injEq] at h; obtain ⟨rfl, rfl⟩ := h
    refine ⟨rfl, fun ι args' w ha => ?_⟩
    obtain ⟨a', b', rfl, h1, h2⟩ := vrels2 ha
    obtain rfl := h1.str_inv
    obtain rfl := h2.str_inv
    exact ⟨_, by simp only [compare_two, Extern.Bytes.bytesOf, goInt, Sem.run_bind, Sem.run_pure, Result.andThen_ok], .int _ _⟩
  · cases h
theorem pair_rel (ι : Inj) (a b : Nat) : VRel ι (Extern.MathBitsCarry.pair a b) (Extern.MathBitsCarry.pair a b) := VRel.const ι _ rfl
theorem add_ok {f : Nat} {fn : Func} {g : Array Value → Sem Value} (hf : P.funcs[f]? = some fn) (hn : fn.name ≠ "runtime.NumGoroutine") (hb : fn.body = none) (hx : Extern.findNext fn = none) (he : Extern.find fn = some g)
    (hg : g = fun args => do
      let (x, y, c) ← Extern.MathBitsCarry.three "Add64" args
      pure (Extern.MathBitsCarry.pair ((x + y + c) % Extern.MathBitsCarry.m64) ((x + y + c) / Extern.MathBitsCarry.m64))) : PrimOk P f addP := by
  refine prim_ext hf hn hb hx he ?_
  intro fl args s v s' h
  unfold addP at h
  split at h
  · split at h
    · rename_i hc
      simp only [Option.some.injEq, Prod.mk.injEq] at h; obtain ⟨rfl, rfl⟩ := h
      refine ⟨rfl, fun ι args' w ha => ?_⟩
      obtain ⟨a', b', c', rfl, h1, h2, h3⟩ := vrels3 ha
      obtain rfl := h1.int_inv
      obtain rfl := h2.int_inv
      obtain rfl := h3.int_inv
      refine ⟨_, ?_, pair_rel ι _ _⟩
      subst hg
      have hc' : ¬ (Int.toNat _ > 1) := Nat.not_lt.2 hc
      simp only [three_of, asInt_of, Sem.run_bind, Sem.run_pure, Result.andThen_ok, if_neg hc']
    · cases h
  · cases h
theorem sub_ok {f : Nat} {fn : Func} {g : Array Value → Sem Value} (hf : P.funcs[f]? = some fn) (hn : fn.name ≠ "runtime.NumGoroutine") (hb : fn.body = none) (hx : Extern.findNext fn = none) (he : Extern.find fn = some g)
    (hg : g = fun args => do
      let (x, y, b) ← Extern.MathBitsCarry.three "Sub64" args
      pure (Extern.MathBitsCarry.pair ((x + Extern.MathBitsCarry.m64 - y - b) % Extern.MathBitsCarry.m64) (if x < y + b then 1 else 0))) : PrimOk P f subP := by
  refine prim_ext hf hn hb hx he ?_
  intro fl args s v s' h
  unfold subP at h
  split at h
  · split at h
    · rename_i hc
      simp only [Option.some.injEq, Prod.mk.injEq] at h; obtain ⟨rfl, rfl⟩ := h
      refine ⟨rfl, fun ι args' w ha => ?_⟩
      obtain ⟨a', b', c', rfl, h1, h2, h3⟩ := vrels3 ha
      obtain rfl := h1.int_inv
      obtain rfl := h2.int_inv
      obtain rfl := h3.int_inv
      refine ⟨_, ?_, pair_rel ι _ _⟩
      subst hg
      have hc' : ¬ (Int.toNat _ > 1) := Nat.not_lt.2 hc
      simp only [three_of, asInt_of, Sem.run_bind, Sem.run_pure, Result.andThen_ok, if_neg hc']
    · cases h
  · cases h
end Go.Ev
