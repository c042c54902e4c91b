import Derived.Test.YtojbggomekgkcaaGreatEvB
/- An evaluator of the program's functions, and that it is sound: part of the proof. -/
set_option linter.unusedVariables false
set_option linter.unusedSimpArgs false
/- An operation of a region, calls and all; a region whose order is the text's. -/
namespace Go.Ev
variable {P : Program} {w : World} {ι : Inj} {s s' : St} {fl : Nat} {F : Fence}

def FOk (F : Fence) : Prop := F = Fence.wide ∨ ∃ l, F = Fence.wide.inRound l
theorem FOk.fn (h : FOk F) (f : FuncId) : F.fn f := by rcases h with rfl | ⟨l, rfl⟩ <;> trivial
theorem FOk.depth (h : FOk F) : ¬ (F.depth.isSome = true) := by rcases h with rfl | ⟨l, rfl⟩ <;> simp [Fence.wide]
theorem FOk.calls (h : FOk F) {f : FuncId} {args : Array Value} {R : Ending → World → Prop} (g : CallsIn Fence.wide 0 P f args w R) : CallsIn F 0 P f args w R := by
  rcases h with rfl | ⟨l, rfl⟩
  · exact g
  · exact g
theorem FOk.round (h : FOk F) {l : Nat} {f : FuncId} {tmps : Array Value} {x y : Code} {R : Ending → World → Prop} (g : RoundIn Fence.wide 0 P l f tmps x y w R) : RoundIn F 0 P l f tmps x y w R := by
  rcases h with rfl | ⟨l, rfl⟩
  · exact g
  · exact g
/-- What is known behind: the state; the value, where there is one. -/
def Fin (P : Program) (fl : Nat) (ι : Inj) (s : St) (w : World) (v : Option Value) (s' : St) (u : Value) (w' : World) : Prop :=
  ∃ ι', Post fl ι s w ι' s' w' ∧ SRel P ι' s' w' ∧ ∀ x, v = some x → VRel ι' x u
def Ret (P : Program) (fl : Nat) (ι : Inj) (s : St) (w : World) (v : Option Value) (s' : St) (e : Ending) (w' : World) : Prop := ∃ u, e = .returned u ∧ Fin P fl ι s w v s' u w'
inductive NextOK (P : Program) (fl : Nat) (ι : Inj) (s : St) (w : World) (v : Option Value) (s' : St) : Result Next → Prop
  | value {u : Value} {w' : World} (h : Fin P fl ι s w v s' u w') : NextOK P fl ι s w v s' (.ok (.value u) w')
  | skip {w' : World} (h : Fin P fl ι s w v s' undef w') : NextOK P fl ι s w v s' (.ok .skip w')
  | enter {f : FuncId} {args : Array Value} {w1 : World} (h : CallsIn Fence.wide 0 P f args w1 (Ret P fl ι s w v s')) : NextOK P fl ι s w v s' (.ok (.enter f args) w1)
  | round {l : Nat} {f : FuncId} {tmps : Array Value} {x y : Code} {w1 : World} (h : RoundIn Fence.wide 0 P l f tmps x y w1 (Ret P fl ι s w v s')) : NextOK P fl ι s w v s' (.ok (.round l f tmps x y) w1)
theorem NextOK.of_op {v : Option Value} {r : Result Next} (h : OpOK P fl ι s w v s' r) : NextOK P fl ι s w v s' r := by
  obtain ⟨w', ι', h1, h2, h3⟩ := h
  cases v with
  | some v =>
    obtain ⟨v', rfl, h4⟩ := h3
    exact .value ⟨ι', h1, h2, fun x hx => by cases hx; exact h4⟩
  | none =>
    subst h3
    exact .skip ⟨ι', h1, h2, fun x hx => by cases hx⟩
theorem NextOK.upon {v : Option Value} {r : Result Next} (h : NextOK P fl ι s w v s' r) (hF : FOk F) {o : Oper} {a : Act} {next : Act → World → Prop} {Q : Exit → Act → World → Prop}
    (hn : ∀ u w', Fin P fl ι s w v s' u w' → next (a.put o.dst u) w') : o.uponIn F 0 P a next Q r := by
  cases h with
  | value h => exact hn _ _ h
  | skip h => exact hn _ _ h
  | enter h =>
    refine ⟨fun x => absurd x hF.depth, hF.calls (h.mono ?_)⟩
    rintro e w' ⟨u, rfl, hu⟩
    exact hn _ _ hu
  | round h =>
    refine ⟨fun x => absurd x hF.depth, hF.round (h.mono ?_)⟩
    rintro e w' ⟨u, rfl, hu⟩
    exact hn _ _ hu

/-- What a function's value does, logical and real. -/
def SoundV (P : Program) (E : Evs) : Prop := ∀ fl g args s v s', E.v fl g args s = some (v, s') → ∀ ι w g' (args' : Array Value), VRel ι g g' → VRels ι args args'.toList → SRel P ι s w → Fresh ι s s'.k → fl ≤ s.k →
  NextOK P fl ι s w (some v) s' ((Deferred.ofValue g' args' >>= fun d => invoke d.target d.args).run P w)

theorem nodefer {m : Bool} {o : Oper} {lop : LOp} (hc : compOp P m o = some lop) : ∀ c, o.op ≠ .defer c := by
  intro c h; simp [compOp, h] at hc
theorem evs_arr {e : Env} {a : Act} (hE : ERel ι e a.tmps) {xs : Array Operand} (hx : opdsOk xs.toList = true) {vs : List Value} (h : evs e xs.toList = some vs) : VRels ι vs (xs.map a.eval).toList := by
  simpa using evs_rel hE hx h
theorem compOp_call {m : Bool} {o : Oper} {f : Operand} {l : List Operand} (hc : compOp P m o = some (.call f l)) : ∃ c, o.op = .call c ∧ c.callee = .value f ∧ c.args.toList = l := by
  unfold compOp at hc
  split at hc
  case h_27 c ho =>
    split at hc
    · rename_i g hg
      simp only [Option.some.injEq, LOp.call.injEq] at hc
      exact ⟨c, ho, by rw [hg, hc.1], hc.2⟩
    · cases hc
    · exfalso
      repeat' split at hc
      all_goals first
        | (cases hc; done)
        | (simp only [Option.map_eq_some_iff] at hc; obtain ⟨_, _, hc⟩ := hc; cases hc; done)
  all_goals
    exfalso
    repeat' split at hc
  all_goals first
    | (cases hc; done)
    | (simp only [Option.map_eq_some_iff] at hc; obtain ⟨_, _, hc⟩ := hc; cases hc; done)
theorem op_next {E : Evs} (hV : SoundV P E) {e : Env} {a : Act} (hE : ERel ι e a.tmps) {m : Bool} {o : Oper} {lop : LOp} (hc : compOp P m o = some lop) (hok : lopOk lop = true) (hS : SRel P ι s w) {v : Option Value} (h : eOp E fl s e lop = some (v, s')) (hF : Fresh ι s s'.k) (hfl : fl ≤ s.k) :
    NextOK P fl ι s w v s' ((execOp a.eval o).run P w) := by
  by_cases hcall : ∃ f l, lop = .call f l
  · obtain ⟨f, l, rfl⟩ := hcall
    have ho := compOp_call hc
    obtain ⟨c, ho, hcl, rfl⟩ := ho
    change eCall E fl s (ev e f) (evs e c.args.toList) = _ at h
    unfold eCall at h
    simp only [lopOk, Bool.and_eq_true] at hok
    split at h
    · rename_i g vs hg hvs
      unfold lift1 at h
      split at h
      · rename_i u s1 hu
        simp only [Option.some.injEq, Prod.mk.injEq] at h; obtain ⟨rfl, rfl⟩ := h
        have := hV _ _ _ _ _ _ hu ι w (a.eval f) (c.args.map a.eval) (ev_rel hE hok.1 hg) (evs_arr hE hok.2 hvs) hS hF hfl
        simpa [execOp, ho, resolve, hcl] using this
      · cases h
    · cases h
  · have h2 : runOp fl s e lop = some (v, s') := by
      cases lop <;> first
        | exact h
        | exact absurd ⟨_, _, rfl⟩ hcall
    exact NextOK.of_op (op_sound hE hc hok hS h2 hF hfl)

/-! ### Slots -/
def EInv (K : List Nat) (e : Env) : Prop := keysIn e.T K ∧ ∀ i v, Tget e.L i = some v → i ∉ K
theorem look_put {K : List Nat} {e : Env} (hI : EInv K e) {d : Nat} {loc : Bool} (hl : loc = false ↔ d ∈ K) (v : Option Value) : (∀ i, (putD e loc (some d) v).look i = if i = d then v else e.look i) ∧ EInv K (putD e loc (some d) v) := by
  obtain ⟨h1, h2⟩ := hI
  cases hloc : loc with
  | true =>
    have hd : d ∉ K := fun h => by rw [hl.2 h] at hloc; cases hloc
    have hT : Tget e.T d = none := by
      cases h : Tget e.T d with
      | none => rfl
      | some x => exact absurd (h1 d x h) hd
    cases v with
    | some v =>
      refine ⟨fun i => ?_, h1, fun i u hu => ?_⟩
      · simp only [putD, if_true, Env.look, Tget_cons]
        by_cases hi : d = i
        · subst hi; simp
        · simp [hi, Ne.symm hi]
      · simp only [putD, if_true, Tget_cons] at hu
        split at hu
        · rename_i e; subst e; exact hd
        · exact h2 i u hu
    | none =>
      refine ⟨fun i => ?_, h1, fun i u hu => ?_⟩
      · simp only [putD, if_true, Env.look, Tget_Tdel]
        by_cases hi : d = i
        · subst hi; simp [hT]
        · simp [hi, Ne.symm hi]
      · simp only [putD, if_true, Tget_Tdel] at hu
        split at hu
        · cases hu
        · exact h2 i u hu
  | false =>
    have hd : d ∈ K := hl.1 hloc
    have hL : Tget e.L d = none := by
      cases h : Tget e.L d with
      | none => rfl
      | some x => exact absurd hd (h2 d x h)
    cases v with
    | some v =>
      refine ⟨fun i => ?_, fun i u hu => ?_, h2⟩
      · simp only [putD, Bool.false_eq_true, if_false, Env.look, Tget_Tput]
        by_cases hi : d = i
        · subst hi; simp [hL]
        · simp [hi, Ne.symm hi]
      · simp only [putD, Bool.false_eq_true, if_false, Tget_Tput] at hu
        split at hu
        · rename_i e; subst e; exact hd
        · exact h1 i u hu
    | none =>
      refine ⟨fun i => ?_, fun i u hu => ?_, h2⟩
      · simp only [putD, Bool.false_eq_true, if_false, Env.look, Tget_Tdel]
        by_cases hi : d = i
        · subst hi; simp [hL]
        · simp [hi, Ne.symm hi]
      · simp only [putD, Bool.false_eq_true, if_false, Tget_Tdel] at hu
        split at hu
        · cases hu
        · exact h1 i u hu
theorem ERel.put {K : List Nat} {e : Env} {tmps : Array Value} (hE : ERel ι e tmps) (hI : EInv K e) {d : Nat} (hd : d < tmps.size) {loc : Bool} (hl : loc = false ↔ d ∈ K) {v : Option Value} {u : Value} (hv : ∀ x, v = some x → VRel ι x u) :
    ERel ι (putD e loc (some d) v) (tmps.setIfInBounds d u) := by
  intro i x hx
  rw [(look_put hI hl v).1] at hx
  by_cases hi : i = d
  · subst hi
    rw [if_pos rfl] at hx
    exact ⟨u, by simp [hd], hv x hx⟩
  · rw [if_neg hi] at hx
    obtain ⟨x', h1, h2⟩ := hE i x hx
    exact ⟨x', by rw [Array.getElem?_setIfInBounds_ne (Ne.symm hi)]; exact h1, h2⟩
/-- The guard, logical and real. -/
theorem want_wanted {all : List Oper} {ops : Array Oper} (ha : all = ops.toList) {e : Env} {tmps : Array Value} (hE : ∀ g b, e.look g = some (.bool b) → tmps[g]? = some (.bool b)) {o : Oper} {lo : LOper}
    (hg : match o.guard with | none => lo.guard = none | some (j, w) => ∃ d, (all[j]?).bind (·.dst) = some d ∧ lo.guard = some (d, w)) {b : Bool} (h : want e lo.guard = some b) : Region.wanted o (yielded ops tmps) = b := by
  subst ha
  cases hgd : o.guard with
  | none =>
    rw [hgd] at hg; simp only at hg
    rw [hg] at h; simp only [want, Option.some.injEq] at h; subst h
    simp [Region.wanted, hgd]
  | some p =>
    obtain ⟨j, wn⟩ := p
    rw [hgd] at hg; simp only at hg
    obtain ⟨d, h1, h2⟩ := hg
    rw [h2] at h
    simp only [want] at h
    split at h
    · rename_i c hc
      simp only [Option.some.injEq] at h; subst h
      have h3 := hE d c hc
      have h1' : (ops[j]?).bind (·.dst) = some d := by simpa using h1
      simp [Region.wanted, hgd, yielded, h1', h3]
    · cases h
theorem ERel.bools {e : Env} {tmps : Array Value} (hE : ERel ι e tmps) : ∀ g b, e.look g = some (.bool b) → tmps[g]? = some (.bool b) := by
  intro g b h
  obtain ⟨v', h1, h2⟩ := hE g _ h
  rw [h1, h2.bool_inv]
/-- What a region's operation does: one step of the walk. -/
theorem oper_step {C : Cfg} {E : Evs} (hV : SoundV P E) (hFk : FOk F) {ops : Array Oper} {N : Nat} {K : List Nat} {o : Oper} {lo : LOper} {m : Bool} (hop : compOp P m o = some lo.op) (hok : lopOk lo.op = true) (hdst : lo.dst = o.dst)
    (hN : ∀ d, o.dst = some d → d < N) (hK : ∀ d, o.dst = some d → (lo.loc = false ↔ d ∈ K))
    (hg : match o.guard with | none => lo.guard = none | some (j, w) => ∃ d, (ops.toList[j]?).bind (·.dst) = some d ∧ lo.guard = some (d, w))
    {e e' : Env} {a : Act} (hI : EInv K e) (hE : ERel ι e a.tmps) (ha : a.tmps.size = N) (hS : SRel P ι s w) (h : eOper E fl lo e s = some (e', s')) (hF : Fresh ι s s'.k) (hfl : fl ≤ s.k)
    {next : Act → World → Prop} {Q : Exit → Act → World → Prop}
    (hn : ∀ a' w' ι', Post fl ι s w ι' s' w' → SRel P ι' s' w' → ERel ι' e' a'.tmps → EInv K e' → a'.tmps.size = N → a'.defers = a.defers → next a' w') :
    if Region.wanted o (yielded ops a.tmps) then o.wpIn F 0 P a w next Q else (∀ f, o.about P w a.eval = some f → F.fn f) ∧ next (a.put o.dst undef) w := by
  unfold eOper at h
  have fin : ∀ (v : Option Value) u w', e' = putD e lo.loc lo.dst v → Fin P fl ι s w v s' u w' → next (a.put o.dst u) w' := by
    rintro v u w' rfl ⟨ι', h1, h2, h3⟩
    have hx := h1.ext hF
    cases hd : o.dst with
    | none =>
      rw [hdst, hd] at hn
      exact hn _ _ ι' h1 h2 (by simpa [putD, Act.put] using hE.mono hx) hI (by simpa [Act.put] using ha) rfl
    | some d =>
      rw [hdst, hd] at hn
      refine hn _ _ ι' h1 h2 ?_ (look_put hI (hK d hd) v).2 (by simpa [Act.put] using ha) rfl
      exact (hE.mono hx).put hI (by rw [ha]; exact hN d hd) (hK d hd) h3
  split at h
  · rename_i hw
    rw [if_pos (want_wanted rfl hE.bools hg hw)]
    split at h
    · rename_i v s1 hv
      simp only [Option.some.injEq, Prod.mk.injEq] at h; obtain ⟨rfl, rfl⟩ := h
      refine ⟨fun f _ => hFk.fn f, ?_⟩
      rw [Oper.semAt_eq _ _ _ (nodefer hop)]
      exact (op_next hV hE hop hok hS hv hF hfl).upon hFk (fun u w' hu => fin v u w' rfl hu)
    · cases h
  · rename_i hw
    rw [if_neg (by rw [want_wanted rfl hE.bools hg hw]; simp)]
    simp only [Option.some.injEq, Prod.mk.injEq] at h; obtain ⟨rfl, rfl⟩ := h
    exact ⟨fun f _ => hFk.fn f, fin none undef w rfl ⟨ι, Post.refl hF, hS, fun x hx => by cases hx⟩⟩
  · cases h
end Go.Ev
/- The numbers of blocks never fall; a region in the order of its text. -/
namespace Go.Ev
variable {P : Program} {w : World} {ι : Inj} {s s' : St} {fl : Nat} {F : Fence}

theorem st_k {b o : Nat} {vs : List Value} (h : s.st fl b o vs = some s') : s'.k = s.k := by
  unfold St.st at h
  (repeat' split at h) <;> first
    | (simp only [Option.some.injEq] at h; subst h; rfl)
    | cases h
theorem fz_k (b : Nat) : (s.fz b).k = s.k := by unfold St.fz; split <;> rfl
theorem add_k (imm : Bool) (o : LObj) : (s.add imm o).k = s.k + 1 := by unfold St.add; split <;> rfl
theorem some1_k {x : Option Value} {v : Option Value} (h : some1 s x = some (v, s')) : s.k ≤ s'.k := by
  obtain ⟨rfl, _⟩ := some1_inv h; exact Nat.le_refl _
theorem appendCells_k {st b : Nat} {x : Value} {n : Nat} {new : List Value} {v : Value} (h : appendCells fl s st b x n new = some (v, s')) : s.k ≤ s'.k := by
  unfold appendCells at h
  split at h
  · split at h
    · split at h
      · simp only [Option.some.injEq, Prod.mk.injEq] at h; rw [← h.2]; exact Nat.le_refl _
      · split at h
        · simp only [Option.some.injEq, Prod.mk.injEq] at h; rw [← h.2]; exact Nat.le_refl _
        · split at h
          · rename_i hst
            simp only [Option.some.injEq, Prod.mk.injEq] at h; rw [← h.2, st_k hst]; exact Nat.le_refl _
          · cases h
    · split at h
      · split at h
        · split at h
          · rename_i hn
            simp only [Option.some.injEq, Prod.mk.injEq] at h; rw [← h.2]
            unfold appendNew at hn
            (repeat' split at hn) <;> first
              | (simp only [Option.some.injEq] at hn; subst hn; simp [St.new, St.del]; done)
              | cases hn
          · cases h
        · cases h
      · cases h
  · cases h
theorem runOp_k {e : Env} {op : LOp} {v : Option Value} (h : runOp fl s e op = some (v, s')) : s.k ≤ s'.k := by
  cases op <;> simp only [runOp] at h
  case mov => exact some1_k h
  case nilCheck => unfold rNil at h; (repeat' split at h) <;> first | (simp only [Option.some.injEq, Prod.mk.injEq] at h; rw [← h.2]; exact Nat.le_refl _) | cases h
  case pick => unfold rPick at h; split at h; exact some1_k h; cases h
  case alloc => simp only [Option.some.injEq, Prod.mk.injEq] at h; rw [← h.2]; simp [St.new]
  case box =>
    unfold rBox at h; (repeat' split at h) <;> first
      | (simp only [Option.some.injEq, Prod.mk.injEq] at h; rw [← h.2, add_k]; omega)
      | cases h
  case build =>
    unfold rBuild at h; (repeat' split at h) <;> first
      | (simp only [Option.some.injEq, Prod.mk.injEq] at h; rw [← h.2]; exact Nat.le_refl _)
      | cases h
  case buildSlice =>
    unfold rBuildSlice at h; (repeat' split at h) <;> first
      | (simp only [Option.some.injEq, Prod.mk.injEq] at h; rw [← h.2, add_k]; omega)
      | cases h
  case load => unfold rLoad at h; (repeat' split at h) <;> first | exact some1_k h | cases h
  case store =>
    unfold rStore at h; split at h
    · split at h
      · split at h
        · rename_i hst
          simp only [Option.some.injEq, Prod.mk.injEq] at h; rw [← h.2]
          split
          · rw [fz_k, st_k hst]; exact Nat.le_refl _
          · rw [st_k hst]; exact Nat.le_refl _
        · cases h
      · cases h
    · cases h
  case bin => unfold rBin at h; split at h; exact some1_k h; cases h
  case un => unfold rUn at h; split at h; exact some1_k h; cases h
  case conv => unfold rConv at h; (repeat' split at h) <;> first | (simp only [Option.some.injEq, Prod.mk.injEq] at h; rw [← h.2]; exact Nat.le_refl _) | cases h
  case makeFunc => unfold rFunc at h; (repeat' split at h) <;> first | (simp only [Option.some.injEq, Prod.mk.injEq] at h; rw [← h.2]; exact Nat.le_refl _) | cases h
  case makeMap => simp only [Option.some.injEq, Prod.mk.injEq] at h; rw [← h.2]; simp [St.new]
  case makeSlice => unfold rMakeSlice at h; (repeat' split at h) <;> first | (simp only [Option.some.injEq, Prod.mk.injEq] at h; rw [← h.2]; simp [St.new]; done) | cases h
  case sliceStr => unfold rSliceStr at h; (repeat' split at h) <;> first | (simp only [Option.some.injEq, Prod.mk.injEq] at h; rw [← h.2]; exact Nat.le_refl _) | cases h
  case sliceSl => unfold rSliceSl at h; (repeat' split at h) <;> first | (simp only [Option.some.injEq, Prod.mk.injEq] at h; rw [← h.2]; exact Nat.le_refl _) | cases h
  case sliceArr => unfold rSliceArr at h; (repeat' split at h) <;> first | (simp only [Option.some.injEq, Prod.mk.injEq] at h; rw [← h.2]; exact Nat.le_refl _) | cases h
  case fieldAddr => unfold rFieldAddr at h; (repeat' split at h) <;> first | (simp only [Option.some.injEq, Prod.mk.injEq] at h; rw [← h.2]; exact Nat.le_refl _) | cases h
  case field => unfold rField at h; split at h; exact some1_k h; cases h
  case indexSl => unfold rIndexSl at h; (repeat' split at h) <;> first | (simp only [Option.some.injEq, Prod.mk.injEq] at h; rw [← h.2]; exact Nat.le_refl _) | cases h
  case indexArrAddr => unfold rIndexArrAddr at h; (repeat' split at h) <;> first | (simp only [Option.some.injEq, Prod.mk.injEq] at h; rw [← h.2]; exact Nat.le_refl _) | cases h
  case indexStr => unfold rIndexStr at h; (repeat' split at h) <;> first | (simp only [Option.some.injEq, Prod.mk.injEq] at h; rw [← h.2]; exact Nat.le_refl _) | cases h
  case indexArr => unfold rIndexArr at h; (repeat' split at h) <;> first | exact some1_k h | cases h
  case lookup => unfold rLookup at h; (repeat' split at h) <;> first | (simp only [Option.some.injEq, Prod.mk.injEq] at h; rw [← h.2]; exact Nat.le_refl _) | cases h
  case mapUpdate => unfold rMapUpdate at h; (repeat' split at h) <;> first | (simp only [Option.some.injEq, Prod.mk.injEq] at h; rw [← h.2]; exact Nat.le_refl _) | cases h
  case extract => unfold rExtract at h; split at h; exact some1_k h; cases h
  case call => cases h
  case append =>
    unfold rAppend at h; split at h
    · obtain ⟨u, hu, _⟩ := lift1_inv h
      unfold appendOp at hu
      (repeat' split at hu) <;> first | exact appendCells_k hu | cases hu
    · cases h
  case appendZ =>
    unfold rAppendZ at h; split at h
    · split at h
      · obtain ⟨u, hu, _⟩ := lift1_inv h
        exact appendCells_k hu
      · cases h
    · cases h
  case cap => unfold rCap at h; (repeat' split at h) <;> first | (simp only [Option.some.injEq, Prod.mk.injEq] at h; rw [← h.2]; exact Nat.le_refl _) | cases h
  case makeIface => unfold rIface at h; (repeat' split at h) <;> first | (simp only [Option.some.injEq, Prod.mk.injEq] at h; rw [← h.2]; exact Nat.le_refl _) | cases h
  case panic => cases h
  case len => unfold rLen at h; (repeat' split at h) <;> first | (simp only [Option.some.injEq, Prod.mk.injEq] at h; rw [← h.2]; exact Nat.le_refl _) | cases h
  case copy =>
    unfold rCopy at h; split at h
    · split at h
      · split at h
        · split at h
          · simp only [Option.some.injEq, Prod.mk.injEq] at h; rw [← h.2]; exact Nat.le_refl _
          · split at h
            · rename_i hst
              simp only [Option.some.injEq, Prod.mk.injEq] at h; rw [← h.2]
              split at hst
              · simp only [Option.some.injEq] at hst; rw [hst]; exact Nat.le_refl _
              · rw [st_k hst]; exact Nat.le_refl _
            · cases h
        · cases h
      · cases h
    · cases h
  case clear =>
    unfold rClear at h; split at h
    · simp only [Option.some.injEq, Prod.mk.injEq] at h; rw [← h.2]; exact Nat.le_refl _
    · split at h
      · simp only [Option.some.injEq, Prod.mk.injEq] at h; rw [← h.2]; exact Nat.le_refl _
      · split at h
        · rename_i hst
          simp only [Option.some.injEq, Prod.mk.injEq] at h; rw [← h.2, st_k hst]; exact Nat.le_refl _
        · cases h
    · cases h
  case min2 => unfold rMin at h; (repeat' split at h) <;> first | (simp only [Option.some.injEq, Prod.mk.injEq] at h; rw [← h.2]; exact Nat.le_refl _) | cases h
  case max2 => unfold rMax at h; (repeat' split at h) <;> first | (simp only [Option.some.injEq, Prod.mk.injEq] at h; rw [← h.2]; exact Nat.le_refl _) | cases h

structure KMono (E : Evs) : Prop where
  v : ∀ fl g args s v s', E.v fl g args s = some (v, s') → s.k ≤ s'.k
  c : ∀ fl fn c T s x T' s', E.c fl fn c T s = some (x, T', s') → s.k ≤ s'.k
theorem eOp_k {E : Evs} (hK : KMono E) {e : Env} {op : LOp} {v : Option Value} (h : eOp E fl s e op = some (v, s')) : s.k ≤ s'.k := by
  by_cases hcall : ∃ f l, op = .call f l
  · obtain ⟨f, l, rfl⟩ := hcall
    change eCall E fl s _ _ = _ at h
    unfold eCall at h
    split at h
    · obtain ⟨u, hu, _⟩ := lift1_inv h
      exact hK.v _ _ _ _ _ _ hu
    · cases h
  · have h2 : runOp fl s e op = some (v, s') := by
      cases op <;> first
        | exact h
        | exact absurd ⟨_, _, rfl⟩ hcall
    exact runOp_k h2
theorem eOper_k {E : Evs} (hK : KMono E) {e e' : Env} {o : LOper} (h : eOper E fl o e s = some (e', s')) : s.k ≤ s'.k := by
  unfold eOper at h
  split at h
  · split at h
    · rename_i hv
      simp only [Option.some.injEq, Prod.mk.injEq] at h; rw [← h.2]; exact eOp_k hK hv
    · cases h
  · simp only [Option.some.injEq, Prod.mk.injEq] at h; rw [← h.2]; exact Nat.le_refl _
  · cases h
theorem eOps_k {E : Evs} (hK : KMono E) : ∀ {l : List LOper} {e e' : Env} {s s' : St}, eOps E fl l e s = some (e', s') → s.k ≤ s'.k
  | [], _, _, _, _, h => by simp only [eOps, Option.some.injEq, Prod.mk.injEq] at h; rw [← h.2]; exact Nat.le_refl _
  | o :: r, e, e', s, s', h => by
    simp only [eOps] at h
    split at h
    · rename_i h1
      exact Nat.le_trans (eOper_k hK h1) (eOps_k hK h)
    · cases h
/-- A region in the order of its text. -/
theorem text_ops {E : Evs} (hV : SoundV P E) (hKm : KMono E) (hFk : FOk F) {ops : Array Oper} {N : Nat} {K : List Nat} {Q : Exit → Act → World → Prop} : ∀ (r : List Oper) (lr : List LOper) (i : Nat), OpersRel P ops.toList N K r lr → ops.toList.drop i = r →
    ∀ (e : Env) (s : St) (e' : Env) (s' : St) (ι : Inj) (a : Act) (w : World), EInv K e → ERel ι e a.tmps → a.tmps.size = N → SRel P ι s w → eOps E fl lr e s = some (e', s') → Fresh ι s s'.k → fl ≤ s.k →
      (∀ a' w' ι', Post fl ι s w ι' s' w' → SRel P ι' s' w' → ERel ι' e' a'.tmps → EInv K e' → a'.tmps.size = N → a'.defers = a.defers → Q .normal a' w') →
      wpOpsIn F 0 P ops Q (List.range' i r.length) a w
  | [], _, i, .nil, _, e, s, e', s', ι, a, w, hI, hE, ha, hS, h, hF, hfl, hQ => by
    simp only [eOps, Option.some.injEq, Prod.mk.injEq] at h; obtain ⟨rfl, rfl⟩ := h
    simp only [List.length_nil, List.range'_zero, wpOpsIn]
    exact hQ a w ι (Post.refl hF) hS hE hI ha rfl
  | o :: r, lo :: lr, i, .cons m hop hok hd hN hK hg t, hdr, e, s, e', s', ι, a, w, hI, hE, ha, hS, h, hF, hfl, hQ => by
    have hoi : ops[i]? = some o := by
      have := congrArg (fun l => l[0]?) hdr
      simpa using this
    have hdr' : ops.toList.drop (i + 1) = r := by
      have := congrArg (List.drop 1) hdr
      simpa [List.drop_drop] using this
    simp only [eOps] at h
    split at h
    · rename_i e1 s1 h1
      have hk := eOps_k hKm h
      simp only [List.length_cons, List.range'_succ, wpOpsIn, hoi]
      refine oper_step (C := ⟨fun _ => none, fun _ => none, fun _ => false, fun _ _ => false⟩) hV hFk hop hok hd hN hK hg hI hE ha hS h1 (hF.left hk) hfl ?_
      intro a1 w1 ι1 p1 s1r e1r i1 n1 d1
      refine text_ops hV hKm hFk r lr (i + 1) t hdr' e1 s1 e' s' ι1 a1 w1 i1 e1r n1 s1r h (hF.right p1) (Nat.le_trans hfl p1.k) ?_
      intro a2 w2 ι2 p2 s2r e2r i2 n2 d2
      exact hQ a2 w2 ι2 (p1.trans p2) s2r e2r i2 n2 (d2.trans d1)
    · cases h
end Go.Ev
/- Regions whose order is open: what stands before what; what an operation looks at. -/
namespace Go.Ev
variable {P : Program} {w : World} {ι : Inj} {s s' : St} {fl : Nat} {F : Fence}

/-! ### What stands before what -/
theorem fold_bits (g : Nat → Nat) (i : Nat) : ∀ (l : List Edge) (s0 : Nat), (l.foldl (fun s e => if Region.binds .any e then s ||| 2 ^ e.on ||| g e.on else s) s0).testBit i = true →
    s0.testBit i = true ∨ ∃ e ∈ l, Region.binds .any e = true ∧ (i = e.on ∨ (g e.on).testBit i = true)
  | [], s0, h => .inl h
  | e :: l, s0, h => by
    rw [List.foldl_cons] at h
    rcases fold_bits g i l _ h with h1 | ⟨e', h1, h2, h3⟩
    · split at h1
      · rename_i hb
        simp only [Nat.testBit_or, Bool.or_eq_true, Nat.testBit_two_pow, decide_eq_true_eq] at h1
        rcases h1 with (h1 | h1) | h1
        · exact .inl h1
        · exact .inr ⟨e, by simp, hb, .inl h1.symm⟩
        · exact .inr ⟨e, by simp, hb, .inr h1⟩
      · exact .inl h1
    · exact .inr ⟨e', by simp [h1], h2, h3⟩
def bstep (acc : Array Nat) (o : Oper) : Array Nat := acc.push (o.after.foldl (fun s e => if Region.binds .any e then s ||| 2 ^ e.on ||| acc.getD e.on 0 else s) 0)
theorem before_eq (ops : Array Oper) : Region.before ops = ops.toList.foldl bstep #[] := by
  simp only [Region.before, Array.foldl_toList]; rfl
theorem before_list : ∀ (l : List Oper), (l.reverse.foldl bstep #[]).size = l.length ∧ ∀ j i, ((l.reverse.foldl bstep #[]).getD j 0).testBit i = true →
    ∃ o e, l.reverse[j]? = some o ∧ e ∈ o.after ∧ Region.binds .any e = true ∧ (i = e.on ∨ (e.on < j ∧ ((l.reverse.foldl bstep #[]).getD e.on 0).testBit i = true))
  | [] => by simp
  | o :: l => by
    obtain ⟨h1, h2⟩ := before_list l
    simp only [List.reverse_cons, List.foldl_append, List.foldl_cons, List.foldl_nil]
    generalize hR : l.reverse.foldl bstep #[] = R at h1 h2
    have hsz : (bstep R o).size = R.size + 1 := by simp [bstep]
    refine ⟨by rw [hsz, h1]; rfl, fun j i hb => ?_⟩
    have hlo : ∀ k, k < R.size → (bstep R o).getD k 0 = R.getD k 0 := by
      intro k hk; simp [bstep, Array.getD_eq_getD_getElem?, Array.getElem?_push, Nat.ne_of_lt hk]
    rcases Nat.lt_trichotomy j R.size with hj | hj | hj
    · rw [hlo j hj] at hb
      obtain ⟨o', e, g1, g2, g3, g4⟩ := h2 j i hb
      refine ⟨o', e, ?_, g2, g3, g4.imp id fun ⟨a, b⟩ => ⟨a, by rw [hlo _ (by omega)]; exact b⟩⟩
      rw [List.getElem?_append_left (by simp; omega)]; exact g1
    · have : (bstep R o).getD j 0 = o.after.foldl (fun s e => if Region.binds .any e then s ||| 2 ^ e.on ||| R.getD e.on 0 else s) 0 := by
        subst hj; simp [bstep, Array.getD_eq_getD_getElem?]
      rw [this, ← Array.foldl_toList] at hb
      rcases fold_bits (fun k => R.getD k 0) i _ _ hb with h0 | ⟨e, g1, g2, g3⟩
      · simp at h0
      · refine ⟨o, e, ?_, by simpa using g1, g2, g3.imp id fun g => ?_⟩
        · rw [List.getElem?_append_right (by simp; omega)]
          simp [hj, h1]
        · have hlt : e.on < R.size := by
            rcases Nat.lt_or_ge e.on R.size with h | h
            · exact h
            · simp [Array.getD_eq_getD_getElem?, Array.getElem?_eq_none h] at g
          exact ⟨by omega, by rw [hlo _ hlt]; exact g⟩
    · have : (bstep R o).getD j 0 = 0 := by
        rw [Array.getD_eq_getD_getElem?, Array.getElem?_eq_none (by rw [hsz]; omega)]; rfl
      rw [this] at hb; simp at hb
theorem befs_spec {ops : Array Oper} {j i : Nat} (h : ((befs ops.toList).getD j 0).testBit i = true) :
    ∃ o e, ops[j]? = some o ∧ e ∈ o.after ∧ Region.binds .any e = true ∧ (i = e.on ∨ (e.on < j ∧ ((befs ops.toList).getD e.on 0).testBit i = true)) := by
  have hb : ∀ k, (befs ops.toList).getD k 0 = ((ops.toList.reverse).reverse.foldl bstep #[]).getD k 0 := by
    intro k
    simp only [befs, before_eq, List.reverse_reverse, List.getD_eq_getElem?_getD, Array.getD_eq_getD_getElem?, Array.getElem?_toList]
  rw [hb] at h
  obtain ⟨o, e, h1, h2, h3, h4⟩ := (before_list ops.toList.reverse).2 j i h
  refine ⟨o, e, by simpa using h1, h2, h3, h4.imp id fun ⟨a, b⟩ => ⟨a, by rw [hb]; exact b⟩⟩
def Lst (listed : Array Bool) (i : Nat) : Prop := listed.getD i false = true
def Closed (ops : Array Oper) (listed : Array Bool) : Prop := ∀ j o, ops[j]? = some o → Lst listed j → ∀ e ∈ o.after, Region.binds .any e = true → Lst listed e.on
theorem Closed.before {ops : Array Oper} {listed : Array Bool} (hc : Closed ops listed) : ∀ (j : Nat), Lst listed j → ∀ i, ((befs ops.toList).getD j 0).testBit i = true → Lst listed i := by
  intro j
  induction j using Nat.strongRecOn with
  | _ j ih =>
    intro hj i hb
    obtain ⟨o, e, h1, h2, h3, h4⟩ := befs_spec hb
    have he := hc j o h1 hj e h2 h3
    rcases h4 with rfl | ⟨h5, h6⟩
    · exact he
    · exact ih _ h5 he i h6
theorem ready_before {ops : Array Oper} {listed : Array Bool} (hc : Closed ops listed) {j : Nat} (hj : j ∈ Region.ready .any ops listed) : ∀ i, ((befs ops.toList).getD j 0).testBit i = true → Lst listed i := by
  intro i hb
  obtain ⟨_, o, ho, hall⟩ := mem_ready.1 hj
  obtain ⟨o', e, h1, h2, h3, h4⟩ := befs_spec hb
  rw [ho] at h1; cases h1
  have he := hall e h2 h3
  rcases h4 with rfl | ⟨h5, h6⟩
  · exact he
  · exact hc.before _ he i h6
theorem Closed.step {ops : Array Oper} {listed : Array Bool} (hc : Closed ops listed) {j : Nat} (hj : j ∈ Region.ready .any ops listed) : Closed ops (listed.setIfInBounds j true) := by
  intro k o ho hk e he hb
  by_cases hkj : j = k
  · subst hkj
    obtain ⟨_, o', ho', hall⟩ := mem_ready.1 hj
    rw [ho] at ho'; cases ho'
    exact getD_set_true (hall e he hb)
  · exact getD_set_true (hc k o ho (by unfold Lst at hk ⊢; rwa [getD_set_ne false hkj] at hk) e he hb)
theorem allLt_iff {p : Nat → Bool} : ∀ {n : Nat}, allLt p n = true → ∀ i, i < n → p i = true
  | 0, _, i, h => by omega
  | n + 1, h, i, hi => by
    simp only [allLt, Bool.and_eq_true] at h
    by_cases e : i = n
    · subst e; exact h.1
    · exact allLt_iff h.2 i (by omega)
/-- Where nothing is ready, all is done. -/
theorem ready_nil {ops : Array Oper} {listed : Array Bool} (hsz : listed.size = ops.size) (hed : edgesBack ops.toList = true) (hr : Region.ready .any ops listed = []) : ∀ i, i < ops.size → Lst listed i := by
  intro i
  induction i using Nat.strongRecOn with
  | _ i ih =>
    intro hi
    cases hl : listed.getD i false with
    | true => exact hl
    | false =>
      exfalso
      have hm : i ∈ Region.ready .any ops listed := by
        refine mem_ready.2 ⟨?_, ops[i], by simp [hi], fun e he hb => ?_⟩
        · have : i < listed.size := by omega
          simp only [Array.getD_eq_getD_getElem?, this, Array.getElem?_eq_getElem, Option.getD_some] at hl ⊢
          exact hl
        · have := allLt_iff hed i (by simpa using hi)
          simp only [Array.getElem?_toList, hi, Array.getElem?_eq_getElem] at this
          have := List.all_eq_true.1 this e (by simpa using he)
          simp only [hb, Bool.not_true, Bool.false_or] at this
          have hlt : e.on < i := by simpa [Nat.blt_eq] using this
          exact ih e.on hlt (by omega)
      rw [hr] at hm; cases hm

/-! ### What an operation looks at -/
theorem ev_congr {e e2 : Env} {x : Operand} (h : ∀ t ∈ opd x, e2.look t = e.look t) : ev e2 x = ev e x := by
  cases x <;> first | rfl | exact h _ (by simp [opd])
theorem evs_congr {e e2 : Env} : ∀ {xs : List Operand}, (∀ t ∈ opds xs, e2.look t = e.look t) → evs e2 xs = evs e xs
  | [], _ => rfl
  | x :: xs, h => by
    simp only [opds, List.flatMap_cons, List.mem_append] at h
    simp only [evs, ev_congr fun t ht => h t (.inl ht), evs_congr (xs := xs) fun t ht => h t (.inr ht)]
theorem evo_congr {e e2 : Env} {x : Option Operand} (h : ∀ t ∈ oopd x, e2.look t = e.look t) : evo e2 x = evo e x := by
  cases x with
  | none => rfl
  | some x => simp only [evo, ev_congr (x := x) h]
theorem evParts_congr {e e2 : Env} : ∀ {l : List (Nat × Nat × Operand)}, (∀ t ∈ partsR l, e2.look t = e.look t) → evParts e2 l = evParts e l
  | [], _ => rfl
  | (a, b, x) :: r, h => by
    simp only [partsR, List.flatMap_cons, List.mem_append] at h
    simp only [evParts, ev_congr fun t ht => h t (.inl ht), evParts_congr (l := r) fun t ht => h t (.inr ht)]
theorem eOp_congr {E : Evs} {e e2 : Env} {op : LOp} (h : ∀ t ∈ readsO op, e2.look t = e.look t) : eOp E fl s e2 op = eOp E fl s e op := by
  cases op <;> simp only [readsO, List.mem_append] at h <;> simp only [eOp, runOp]
  case pick c a b =>
    have hc := ev_congr (x := c) fun t ht => h t (.inl (.inl ht))
    have h1 := ev_congr (x := a) fun t ht => h t (.inl (.inr ht))
    have h2 := ev_congr (x := b) fun t ht => h t (.inr ht)
    rw [hc]; unfold rPick; split
    · split
      · rw [h1]
      · rw [h2]
    · rfl
  all_goals first
    | rfl
    | (rw [ev_congr h]; done)
    | (rw [evParts_congr h]; done)
    | (rw [ev_congr fun t ht => h t (.inl ht), ev_congr fun t ht => h t (.inr ht)]; done)
    | (rw [evs_congr fun t ht => h t (.inl ht), evs_congr fun t ht => h t (.inr ht)]; done)
    | (rw [ev_congr fun t ht => h t (.inl ht), evs_congr fun t ht => h t (.inr ht)]; done)
    | (rw [ev_congr fun t ht => h t (.inl (.inl ht)), ev_congr fun t ht => h t (.inl (.inr ht)), ev_congr fun t ht => h t (.inr ht)]; done)
    | (rw [ev_congr fun t ht => h t (.inl (.inl ht)), evo_congr fun t ht => h t (.inl (.inr ht)), evo_congr fun t ht => h t (.inr ht)]; done)
    | (rw [ev_congr fun t ht => h t (.inl (.inl (.inl ht))), evo_congr fun t ht => h t (.inl (.inl (.inr ht))), evo_congr fun t ht => h t (.inl (.inr ht)), evo_congr fun t ht => h t (.inr ht)]; done)
def onlyT (e : Env) : List Nat → Tmps
  | [] => []
  | t :: r => match e.look t with
    | some v => (t, v) :: onlyT e r
    | none => onlyT e r
def only (e : Env) (ts : List Nat) : Env := ⟨[], onlyT e ts⟩
theorem onlyT_get (e : Env) (t : Nat) : ∀ (ts : List Nat), Tget (onlyT e ts) t = if t ∈ ts then e.look t else none
  | [] => rfl
  | u :: r => by
    simp only [onlyT]
    have ih := onlyT_get e t r
    cases hu : e.look u with
    | some v =>
      simp only [Tget_cons, ih]
      by_cases h : u = t
      · subst h; simp [hu]
      · simp [h, Ne.symm h]
    | none =>
      simp only [ih]
      by_cases h : u = t
      · subst h; simp [hu]
      · simp [Ne.symm h]
theorem only_look (e : Env) (ts : List Nat) (t : Nat) : (only e ts).look t = if t ∈ ts then e.look t else none := by
  simp [only, Env.look, Tget, onlyT_get]
end Go.Ev
/- Reads; operations that look at no state. -/
namespace Go.Ev
variable {P : Program} {w : World} {ι : Inj} {s s' : St} {fl : Nat} {F : Fence}
theorem read_sound {e : Env} {a : Act} (hE : ERel ι e a.tmps) {m : Bool} {o : Oper} {lop : LOp} (hc : compOp P m o = some lop) (hok : lopOk lop = true) (hr : isLoad lop = true ∨ isLook lop = true) (hS : SRel P ι s w) {v : Option Value} (h : runOp fl s e lop = some (v, s')) :
    OpSame P ι s w v s' ((execOp a.eval o).run P w) := by
  have hc0 := hc
  unfold compOp at hc
  split at hc
  case h_9 t x ho =>
    simp only [Option.map_eq_some_iff] at hc; obtain ⟨n, hn, rfl⟩ := hc
    exact ops_load0 hE (by simpa [lopOk] using hok) hS h hn ho
  case h_11 op t x y z ho =>
    simp only [Option.some.injEq] at hc; subst hc
    simp [lopOk] at hok
    exact ops_bin0 hE hok hS h ho
  case h_13 c d x ho =>
    have : ∃ k, lop = .conv k x := by
      repeat' split at hc
      all_goals first
        | (cases hc; done)
        | (simp only [Option.some.injEq] at hc; subst hc; exact ⟨_, rfl⟩)
    obtain ⟨k, rfl⟩ := this
    exact ops_conv0 hE (by simpa [lopOk] using hok) hS h ho hc0
  case h_22 t x k ok ho =>
    split at hc
    · rename_i kt el hu
      split at hc
      · rename_i kd i hk hi
        simp only [Option.map_eq_some_iff] at hc; obtain ⟨z, hz, rfl⟩ := hc
        simp [lopOk] at hok
        exact ops_lookup0 hE ⟨hok.1.1, hok.1.2, hok.2⟩ hS h ho hu hk hi hz
      · cases hc
    · cases hc
  all_goals
    exfalso
    repeat' split at hc
  all_goals first
    | (cases hc; done)
    | (simp only [Option.some.injEq] at hc; subst hc; simp [isLoad, isLook] at hr; done)
    | (simp only [Option.map_eq_some_iff] at hc; obtain ⟨_, _, rfl⟩ := hc; simp [isLoad, isLook] at hr; done)
theorem binOp_indep {k : EqK} (hk : k ≠ .ptr) (s s2 : St) (op : BinOp) (x y : Value) : binOp s2 op k x y = binOp s op k x y := by
  have : ∀ x y, eqOp s2 k x y = eqOp s k x y := by intro x y; cases k <;> first | rfl | exact absurd rfl hk
  unfold binOp
  simp only [this]
theorem indep {e : Env} {op : LOp} {v : Option Value} (hch : isChange op = false) (hl : isLoad op = false) (hk : isLook op = false) (h : runOp fl s e op = some (v, s')) :
    (s' = s ∧ ∀ s2, runOp fl s2 e op = some (v, s2)) ∨ ∃ imm obj, s' = s.add imm obj ∧ ∀ s2, s2.k = s.k → runOp fl s2 e op = some (v, s2.add imm obj) := by
  cases op <;> simp only [isChange, isLoad, Bool.true_eq_false] at hch hl
  case alloc =>
    simp only [runOp, Option.some.injEq, Prod.mk.injEq] at h; obtain ⟨rfl, rfl⟩ := h
    exact .inr ⟨false, _, rfl, fun s2 h2 => by simp [runOp, h2, St.add]⟩
  case makeMap =>
    simp only [runOp, Option.some.injEq, Prod.mk.injEq] at h; obtain ⟨rfl, rfl⟩ := h
    exact .inr ⟨false, _, rfl, fun s2 h2 => by simp [runOp, h2, St.add]⟩
  case box st x imm =>
    simp only [runOp] at h ⊢
    unfold rBox at h ⊢
    split at h
    · split at h
      · rename_i hv hlen
        simp only [Option.some.injEq, Prod.mk.injEq] at h; obtain ⟨rfl, rfl⟩ := h
        exact .inr ⟨imm, _, rfl, fun s2 h2 => by simp [hlen, h2]⟩
      · cases h
    · cases h
  case buildSlice st len z l imm =>
    simp only [runOp] at h ⊢
    unfold rBuildSlice at h ⊢
    split at h
    · split at h
      · rename_i hv hlen
        simp only [Option.some.injEq, Prod.mk.injEq] at h; obtain ⟨rfl, rfl⟩ := h
        exact .inr ⟨imm, _, rfl, fun s2 h2 => by simp [hlen, h2]⟩
      · cases h
    · cases h
  case makeSlice st b z x y =>
    simp only [runOp] at h ⊢
    unfold rMakeSlice at h ⊢
    split at h
    · split at h
      · rename_i hlen
        simp only [Option.some.injEq, Prod.mk.injEq] at h; obtain ⟨rfl, rfl⟩ := h
        exact .inr ⟨false, _, rfl, fun s2 h2 => by rw [if_pos hlen, h2]; rfl⟩
      · cases h
    · cases h
  case bin op k x y =>
    have hk' : k ≠ .ptr := by rintro rfl; simp [isLook] at hk
    left
    simp only [runOp] at h ⊢
    unfold rBin at h ⊢
    split at h
    · obtain ⟨rfl, u, hu, rfl⟩ := some1_inv h
      refine ⟨rfl, fun s2 => ?_⟩
      simp only [binOp_indep hk' s' s2, hu, some1]
    · cases h
  case conv k x =>
    left
    simp only [runOp] at h ⊢
    unfold rConv at h ⊢
    split at h
    · simp only [Option.some.injEq, Prod.mk.injEq] at h; obtain ⟨rfl, rfl⟩ := h; exact ⟨rfl, fun s2 => rfl⟩
    · simp only [Option.some.injEq, Prod.mk.injEq] at h; obtain ⟨rfl, rfl⟩ := h; exact ⟨rfl, fun s2 => rfl⟩
    · simp [isLook] at hk
    · cases h
  case panic => cases h
  case lookup => simp [isLook] at hk
  all_goals
    left
    simp only [runOp] at h ⊢
  case mov => obtain ⟨rfl, u, hu, rfl⟩ := some1_inv h; exact ⟨rfl, fun s2 => by simp [hu, some1]⟩
  case nilCheck => unfold rNil at h ⊢; (repeat' split at h) <;> first | (simp only [Option.some.injEq, Prod.mk.injEq] at h; obtain ⟨rfl, rfl⟩ := h; exact ⟨rfl, fun s2 => rfl⟩) | cases h
  case pick =>
    unfold rPick at h ⊢
    split at h
    · obtain ⟨rfl, u, hu, rfl⟩ := some1_inv h; exact ⟨rfl, fun s2 => by simp [hu, some1]⟩
    · cases h
  case build =>
    unfold rBuild at h ⊢
    split at h
    · split at h
      · rename_i hf; simp only [Option.some.injEq, Prod.mk.injEq] at h; obtain ⟨rfl, rfl⟩ := h; exact ⟨rfl, fun s2 => by simp [hf]⟩
      · cases h
    · cases h
  case un =>
    unfold rUn at h ⊢
    split at h
    · obtain ⟨rfl, u, hu, rfl⟩ := some1_inv h; exact ⟨rfl, fun s2 => by simp [hu, some1]⟩
    · cases h
  case makeFunc => unfold rFunc at h ⊢; (repeat' split at h) <;> first | (simp only [Option.some.injEq, Prod.mk.injEq] at h; obtain ⟨rfl, rfl⟩ := h; exact ⟨rfl, fun s2 => rfl⟩) | cases h
  case sliceStr =>
    unfold rSliceStr at h ⊢
    split at h
    · split at h
      · rename_i hf; simp only [Option.some.injEq, Prod.mk.injEq] at h; obtain ⟨rfl, rfl⟩ := h; exact ⟨rfl, fun s2 => by simp [hf]⟩
      · cases h
    · cases h
  case sliceSl =>
    unfold rSliceSl at h ⊢
    split at h
    · split at h
      · rename_i hf
        split at h
        · simp only [Option.some.injEq, Prod.mk.injEq] at h; obtain ⟨rfl, rfl⟩ := h; exact ⟨rfl, fun s2 => by simp [hf]⟩
        · split at h
          · rename_i hg; simp only [Option.some.injEq, Prod.mk.injEq] at h; obtain ⟨rfl, rfl⟩ := h; exact ⟨rfl, fun s2 => by simp [hf, hg]⟩
          · cases h
      · cases h
    · cases h
  case sliceArr =>
    unfold rSliceArr at h ⊢
    split at h
    · split at h
      · rename_i hf; simp only [Option.some.injEq, Prod.mk.injEq] at h; obtain ⟨rfl, rfl⟩ := h; exact ⟨rfl, fun s2 => by simp [hf]⟩
      · cases h
    · cases h
  case fieldAddr => unfold rFieldAddr at h ⊢; (repeat' split at h) <;> first | (simp only [Option.some.injEq, Prod.mk.injEq] at h; obtain ⟨rfl, rfl⟩ := h; exact ⟨rfl, fun s2 => rfl⟩) | cases h
  case field =>
    unfold rField at h ⊢
    split at h
    · obtain ⟨rfl, u, hu, rfl⟩ := some1_inv h; exact ⟨rfl, fun s2 => by simp [hu, some1]⟩
    · cases h
  case indexSl =>
    unfold rIndexSl at h ⊢
    split at h
    · split at h
      · rename_i hf; simp only [Option.some.injEq, Prod.mk.injEq] at h; obtain ⟨rfl, rfl⟩ := h; exact ⟨rfl, fun s2 => by rw [if_pos hf]⟩
      · cases h
    · cases h
  case indexArrAddr =>
    unfold rIndexArrAddr at h ⊢
    split at h
    · split at h
      · rename_i hf; simp only [Option.some.injEq, Prod.mk.injEq] at h; obtain ⟨rfl, rfl⟩ := h; exact ⟨rfl, fun s2 => by rw [if_pos hf]⟩
      · cases h
    · cases h
  case indexStr =>
    unfold rIndexStr at h ⊢
    split at h
    · split at h
      · rename_i hf
        split at h
        · rename_i hg; simp only [Option.some.injEq, Prod.mk.injEq] at h; obtain ⟨rfl, rfl⟩ := h; exact ⟨rfl, fun s2 => by simp only [if_pos hf, hg]⟩
        · cases h
      · cases h
    · cases h
  case indexArr =>
    unfold rIndexArr at h ⊢
    split at h
    · split at h
      · rename_i hf; obtain ⟨rfl, u, hu, rfl⟩ := some1_inv h; exact ⟨rfl, fun s2 => by rw [if_pos hf]; simp [hu, some1]⟩
      · cases h
    · cases h
  case extract =>
    unfold rExtract at h ⊢
    split at h
    · obtain ⟨rfl, u, hu, rfl⟩ := some1_inv h; exact ⟨rfl, fun s2 => by rw [hu]; rfl⟩
    · cases h
  case cap => unfold rCap at h ⊢; (repeat' split at h) <;> first | (rename_i hf; simp only [Option.some.injEq, Prod.mk.injEq] at h; obtain ⟨rfl, rfl⟩ := h; exact ⟨rfl, fun s2 => by simp [hf]⟩) | (simp only [Option.some.injEq, Prod.mk.injEq] at h; obtain ⟨rfl, rfl⟩ := h; exact ⟨rfl, fun s2 => rfl⟩) | cases h
  case makeIface => unfold rIface at h ⊢; (repeat' split at h) <;> first | (simp only [Option.some.injEq, Prod.mk.injEq] at h; obtain ⟨rfl, rfl⟩ := h; exact ⟨rfl, fun s2 => rfl⟩) | cases h
  case len => unfold rLen at h ⊢; (repeat' split at h) <;> first | (simp only [Option.some.injEq, Prod.mk.injEq] at h; obtain ⟨rfl, rfl⟩ := h; exact ⟨rfl, fun s2 => rfl⟩) | cases h
  case min2 =>
    unfold rMin at h ⊢
    split at h
    · simp only [Option.some.injEq, Prod.mk.injEq] at h; obtain ⟨rfl, rfl⟩ := h; exact ⟨rfl, fun s2 => rfl⟩
    · cases h
  case max2 =>
    unfold rMax at h ⊢
    split at h
    · simp only [Option.some.injEq, Prod.mk.injEq] at h; obtain ⟨rfl, rfl⟩ := h; exact ⟨rfl, fun s2 => rfl⟩
    · cases h
end Go.Ev
/- Regions whose order is open: the run in the text's order, and what holds of any set of operations that are done. -/
namespace Go.Ev
variable {P : Program} {fl : Nat} {F : Fence}

theorem read_same {s s' : St} {e : Env} {op : LOp} {v : Option Value} (hr : isLoad op = true ∨ isLook op = true) (h : runOp fl s e op = some (v, s')) : s' = s := by
  cases op <;> simp [isLoad, isLook] at hr <;> simp only [runOp] at h
  case load => unfold rLoad at h; (repeat' split at h) <;> first | exact (some1_inv h).1 | cases h
  case bin => unfold rBin at h; split at h; exact (some1_inv h).1; cases h
  case conv => unfold rConv at h; (repeat' split at h) <;> first | (simp only [Option.some.injEq, Prod.mk.injEq] at h; exact h.2.symm) | cases h
  case lookup => unfold rLookup at h; (repeat' split at h) <;> first | (simp only [Option.some.injEq, Prod.mk.injEq] at h; exact h.2.symm) | cases h
theorem eOper_inv {E : Evs} {lo : LOper} {e e' : Env} {s s' : St} (h : eOper E fl lo e s = some (e', s')) :
    ∃ v, e' = putD e lo.loc lo.dst v ∧ ((want e lo.guard = some true ∧ eOp E fl s e lo.op = some (v, s')) ∨ (want e lo.guard = some false ∧ v = none ∧ s' = s)) := by
  unfold eOper at h
  split at h
  · rename_i hw
    split at h
    · rename_i v s1 hv
      simp only [Option.some.injEq, Prod.mk.injEq] at h; obtain ⟨rfl, rfl⟩ := h
      exact ⟨v, rfl, .inl ⟨hw, hv⟩⟩
    · cases h
  · rename_i hw
    simp only [Option.some.injEq, Prod.mk.injEq] at h; obtain ⟨rfl, rfl⟩ := h
    exact ⟨none, rfl, .inr ⟨hw, rfl, rfl⟩⟩
  · cases h
theorem eOp_run {E : Evs} {s : St} {e : Env} {op : LOp} (h : isChange op = false) : eOp E fl s e op = runOp fl s e op := by
  cases op <;> first | rfl | simp [isChange] at h
theorem nonchange {E : Evs} {lo : LOper} {e e' : Env} {s s' : St} (h : eOper E fl lo e s = some (e', s')) (hc : isChange lo.op = false) : s' = s ∨ ∃ imm o, s' = s.add imm o := by
  obtain ⟨v, _, ⟨_, h2⟩ | ⟨_, _, h3⟩⟩ := eOper_inv h
  · rw [eOp_run hc] at h2
    by_cases hr : isLoad lo.op = true ∨ isLook lo.op = true
    · exact .inl (read_same hr h2)
    · rcases indep hc (by simpa using fun h => hr (.inl h)) (by simpa using fun h => hr (.inr h)) h2 with ⟨rfl, _⟩ | ⟨imm, o, rfl, _⟩
      · exact .inl rfl
      · exact .inr ⟨imm, o, rfl⟩
  · exact .inl h3
theorem disj_spec : ∀ {a b : List Nat}, disj a b = true → ∀ t, t ∈ a → t ∈ b → False
  | [], _, _, t, h, _ => by cases h
  | x :: a, b, h, t, h1, h2 => by
    simp only [disj, Bool.and_eq_true, Bool.not_eq_true'] at h
    rcases List.mem_cons.1 h1 with rfl | h1
    · have := (memN_iff t b).2 h2; rw [this] at h; cases h.1
    · exact disj_spec h.2 t h1 h2

def Ord (ops : Array Oper) (i j : Nat) : Prop := ((befs ops.toList).getD j 0).testBit i = true
structure Run (P : Program) (E : Evs) (fl N : Nat) (K : List Nat) (ops : Array Oper) (l : List LOper) (e : Nat → Env) (s : Nat → St) : Prop where
  len : l.length = ops.size
  step : ∀ (i : Nat) (lo : LOper), l[i]? = some lo → eOper E fl lo (e i) (s i) = some (e (i + 1), s (i + 1))
  rel : ∀ (i : Nat) (lo : LOper), l[i]? = some lo → ∃ (o : Oper) (m : Bool), ops[i]? = some o ∧ compOp P m o = some lo.op ∧ lopOk lo.op = true ∧ lo.dst = o.dst ∧ (∀ d, o.dst = some d → d < N) ∧ (∀ d, o.dst = some d → (lo.loc = false ↔ d ∈ K)) ∧
    (match o.guard with | none => lo.guard = none | some (j, w) => ∃ d, (ops.toList[j]?).bind (·.dst) = some d ∧ lo.guard = some (d, w))
  einv : ∀ i, i ≤ l.length → EInv K (e i)
  free : ∀ (i j : Nat) (x y : LOper), l[i]? = some x → l[j]? = some y → i < j → ¬ Ord ops i j → disj (odst x) (odst y ++ reads y) = true ∧ disj (odst y) (reads x) = true ∧ (isChange x.op && isChange y.op) = false ∧ (isChange x.op && isLook y.op) = false ∧ (isLook x.op && isChange y.op) = false
  pairs : ∀ (i j : Nat) (x y : LOper), l[i]? = some x → l[j]? = some y → isLoad x.op = true → isChange y.op = true → i ≠ j → (i < j → ¬ Ord ops i j) → (j < i → ¬ Ord ops j i) → ∀ key, keyAt (e i) x = some key → (s j).ld key.1 key.2.1 key.2.2 = (s i).ld key.1 key.2.1 key.2.2 ∧ (s (j + 1)).ld key.1 key.2.1 key.2.2 = (s i).ld key.1 key.2.1 key.2.2
  mono : KMono E
def LWF (s : St) : Prop := ∀ b, s.k ≤ b → s.hm.get b = none ∧ s.hi.get b = none
section
variable {E : Evs} {N : Nat} {K : List Nat} {ops : Array Oper} {l : List LOper} {e : Nat → Env} {s : Nat → St} (hR : Run P E fl N K ops l e s)
 include hR
theorem Run.k1 {i : Nat} (h : i < l.length) : (s i).k ≤ (s (i + 1)).k := eOper_k hR.mono (hR.step i l[i] (by simp [h]))
theorem Run.kle {i : Nat} : ∀ (d : Nat), i + d ≤ l.length → (s i).k ≤ (s (i + d)).k
  | 0, _ => Nat.le_refl _
  | d + 1, h => Nat.le_trans (Run.kle d (by omega)) (hR.k1 (i := i + d) (by omega))
theorem Run.k {i j : Nat} (h : i ≤ j) (hj : j ≤ l.length) : (s i).k ≤ (s j).k := by
  obtain ⟨d, rfl⟩ : ∃ d, j = i + d := ⟨j - i, by omega⟩
  exact hR.kle d hj
/-- The numbers of two operations' blocks are apart. -/
theorem Run.apart {i j b : Nat} (hi : i < l.length) (hj : j < l.length) (h1 : (s i).k ≤ b) (h2 : b < (s (i + 1)).k) (h3 : (s j).k ≤ b) (h4 : b < (s (j + 1)).k) : i = j := by
  rcases Nat.lt_trichotomy i j with h | h | h
  · have := hR.k (i := i + 1) (j := j) (by omega) (by omega); omega
  · exact h
  · have := hR.k (i := j + 1) (j := i) (by omega) (by omega); omega
end
/-- What holds where the operations of 'listed' are done; 'c': a place in the text with the same changes ahead of it. -/
structure Inv (P : Program) (fl N : Nat) (l : List LOper) (e : Nat → Env) (s : Nat → St) (ι0 : Inj) (w0 : World) (D : List Deferred) (listed : Array Bool) (ι : Inj) (a : Act) (w : World) (c : Nat) : Prop where
  cle : c ≤ l.length
  pos : ∀ (j : Nat) (lo : LOper), l[j]? = some lo → isChange lo.op = true → (Lst listed j ↔ j < c)
  srel : SRel P ι (s c) w
  wf : ∀ i, i ≤ c → LWF (s i)
  birth : ∀ j, c ≤ j → j < l.length → Lst listed j → s (j + 1) = s j ∨ ∃ imm o, s (j + 1) = (s j).add imm o ∧ ∀ R, ι (s j).k = some R → R.r < w.heap.size ∧ ObRel P ι (!imm) R w.heap[R.r]? o ∧ ∀ b R', ι b = some R' → R'.r = R.r → b = (s j).k
  un : ∀ j, j < l.length → ¬ Lst listed j → ∀ b, (s j).k ≤ b → b < (s (j + 1)).k → ι b = none
  kept : ∀ j, j < c → ¬ Lst listed j → ∀ b, (s j).k ≤ b → b < (s (j + 1)).k → (s c).hm.get b = (s (j + 1)).hm.get b ∧ (s c).hi.get b = (s (j + 1)).hi.get b
  post : Post fl ι0 (s 0) w0 ι { s c with k := (s l.length).k } w
  slots : ∀ p t, p ≤ l.length → (∀ (i : Nat) (lo : LOper), l[i]? = some lo → lo.dst = some t → (Lst listed i ↔ i < p)) → ∀ v, (e p).look t = some v → ∃ v', a.tmps[t]? = some v' ∧ VRel ι v v'
  size : a.tmps.size = N
  defers : a.defers = D
theorem add_get (s : St) (imm : Bool) (o : LObj) (b : Nat) : (s.add imm o).hm.get b = (if b = s.k ∧ imm = false then some o else s.hm.get b) ∧ (s.add imm o).hi.get b = (if b = s.k ∧ imm = true then some o else s.hi.get b) := by
  unfold St.add; cases imm <;> simp [St.new, St.newI, Trie.get_set]
/-- The state with an object more, of which is known how it lies. -/
theorem SRel.add {ι : Inj} {s : St} {w : World} (hS : SRel P ι s w) (hw : LWF s) (imm : Bool) (o : LObj) (h : ∀ R, ι s.k = some R → R.r < w.heap.size ∧ ObRel P ι (!imm) R w.heap[R.r]? o ∧ ∀ b R', ι b = some R' → R'.r = R.r → b = s.k) : SRel P ι (s.add imm o) w := by
  have hk := hw s.k (Nat.le_refl _)
  refine ⟨?_, ?_, ?_, hS.bnd, ?_⟩
  · intro b x R hb hi
    rw [(add_get s imm o b).1] at hb
    split at hb
    · rename_i e; obtain ⟨rfl, rfl⟩ := e
      simp only [Option.some.injEq] at hb; subst hb
      exact (h R hi).2.1
    · exact hS.hm b x R hb hi
  · intro b x R hb hi
    rw [(add_get s imm o b).2] at hb
    split at hb
    · rename_i e; obtain ⟨rfl, rfl⟩ := e
      simp only [Option.some.injEq] at hb; subst hb
      exact (h R hi).2.1
    · exact hS.hi b x R hb hi
  · intro b b' R R' h1 h2 hb hb' he
    by_cases e1 : b = s.k
    · subst e1; exact ((h R hb).2.2 b' R' hb' he.symm).symm
    · by_cases e2 : b' = s.k
      · subst e2; exact (h R' hb').2.2 b R hb he
      · refine hS.inj b b' R R' ?_ ?_ hb hb' he
        · rw [(add_get s imm o b).1, if_neg (fun x => e1 x.1)] at h1; exact h1
        · rw [(add_get s imm o b').1, (add_get s imm o b').2, if_neg (fun x => e2 x.1), if_neg (fun x => e2 x.1)] at h2; exact h2
  · intro b hb
    rw [(add_get s imm o b).1] at hb; rw [(add_get s imm o b).2]
    by_cases e1 : b = s.k
    · subst e1
      cases imm
      · simp; exact hk.2
      · simp [hk.1] at hb
    · rw [if_neg (fun x => e1 x.1)] at hb; rw [if_neg (fun x => e1 x.1)]; exact hS.dis b hb
theorem LWF.add {s : St} (hw : LWF s) (imm : Bool) (o : LObj) : LWF (s.add imm o) := by
  intro b hb
  rw [add_k] at hb
  have := hw b (by omega)
  rw [(add_get s imm o b).1, (add_get s imm o b).2, if_neg (by omega), if_neg (by omega)]; exact this
section
variable {E : Evs} {N : Nat} {K : List Nat} {ops : Array Oper} {l : List LOper} {e : Nat → Env} {s : Nat → St} (hR : Run P E fl N K ops l e s)
variable {ι0 ι : Inj} {w0 w : World} {D : List Deferred} {listed : Array Bool} {a : Act} {c : Nat} (hI : Inv P fl N l e s ι0 w0 D listed ι a w c)
 include hR hI
/-- On to a later place, no change between. -/
theorem Inv.fwd : ∀ (d : Nat), c + d ≤ l.length → (∀ (j : Nat) (lo : LOper), c ≤ j → j < c + d → l[j]? = some lo → isChange lo.op = false) →
    SRel P ι (s (c + d)) w ∧ LWF (s (c + d)) ∧ ∀ b, b < (s c).k → (s (c + d)).hm.get b = (s c).hm.get b ∧ (s (c + d)).hi.get b = (s c).hi.get b
  | 0, _, _ => ⟨hI.srel, hI.wf c (Nat.le_refl _), fun _ _ => ⟨rfl, rfl⟩⟩
  | d + 1, hd, hn => by
    obtain ⟨h1, h2, h3⟩ := Inv.fwd d (by omega) fun j lo ha hb => hn j lo ha (by omega)
    have hl : l[c + d]? = some l[c + d] := by simp [show c + d < l.length by omega]
    have key : s (c + d + 1) = s (c + d) ∨ ∃ imm o, s (c + d + 1) = (s (c + d)).add imm o ∧ ∀ R, ι (s (c + d)).k = some R → R.r < w.heap.size ∧ ObRel P ι (!imm) R w.heap[R.r]? o ∧ ∀ b R', ι b = some R' → R'.r = R.r → b = (s (c + d)).k := by
      by_cases hx : Lst listed (c + d)
      · exact hI.birth (c + d) (by omega) (by omega) hx
      · rcases nonchange (hR.step _ _ hl) (hn (c + d) _ (by omega) (by omega) hl) with h | ⟨imm, o, h⟩
        · exact .inl h
        · refine .inr ⟨imm, o, h, fun R hr => ?_⟩
          have := hI.un (c + d) (by omega) hx (s (c + d)).k (Nat.le_refl _) (by rw [h, add_k]; omega)
          rw [this] at hr; cases hr
    have hk := hR.k (i := c) (j := c + d) (by omega) (by omega)
    rw [show c + (d + 1) = c + d + 1 by omega]
    rcases key with h | ⟨imm, o, h, hb⟩
    · rw [h]; exact ⟨h1, h2, h3⟩
    · rw [h]
      refine ⟨h1.add h2 imm o hb, h2.add imm o, fun b hb => ?_⟩
      rw [(add_get _ imm o b).1, (add_get _ imm o b).2, if_neg (by omega), if_neg (by omega)]
      exact h3 b hb
/-- Back to an earlier place, no change between. -/
theorem Inv.back : ∀ (d : Nat), d ≤ c → (∀ (j : Nat) (lo : LOper), c - d ≤ j → j < c → l[j]? = some lo → isChange lo.op = false) →
    SRel P ι (s (c - d)) w
  | 0, _, _ => hI.srel
  | d + 1, hd, hn => by
    have h1 := Inv.back d (by omega) fun j lo ha hb => hn j lo (by omega) hb
    have hc := hI.cle
    have hl : l[c - (d + 1)]? = some l[c - (d + 1)] := by simp [show c - (d + 1) < l.length by omega]
    have hst := hR.step _ _ hl
    have hw := hI.wf (c - (d + 1)) (by omega)
    rw [show c - (d + 1) + 1 = c - d by omega] at hst
    rcases nonchange hst (hn (c - (d + 1)) _ (by omega) (by omega) hl) with h | ⟨imm, o, h⟩
    · rw [← h]; exact h1
    · rw [h] at h1
      generalize s (c - (d + 1)) = s1 at h1 hw
      have hk := hw s1.k (Nat.le_refl _)
      have g1 : ∀ b x, s1.hm.get b = some x → (s1.add imm o).hm.get b = some x := by
        intro b x hb; rw [(add_get s1 imm o b).1, if_neg]; exact hb
        rintro ⟨rfl, _⟩; rw [hk.1] at hb; cases hb
      have g2 : ∀ b x, s1.hi.get b = some x → (s1.add imm o).hi.get b = some x := by
        intro b x hb; rw [(add_get s1 imm o b).2, if_neg]; exact hb
        rintro ⟨rfl, _⟩; rw [hk.2] at hb; cases hb
      have n1 : ∀ b, s1.hm.get b ≠ none → (s1.add imm o).hm.get b ≠ none := fun b hb => by
        cases hx : s1.hm.get b with
        | none => exact absurd hx hb
        | some x => rw [g1 b x hx]; simp
      have n2 : ∀ b, s1.hi.get b ≠ none → (s1.add imm o).hi.get b ≠ none := fun b hb => by
        cases hx : s1.hi.get b with
        | none => exact absurd hx hb
        | some x => rw [g2 b x hx]; simp
      refine ⟨fun b x R hb => h1.hm b x R (g1 b x hb), fun b x R hb => h1.hi b x R (g2 b x hb), fun b b' R R' ha hb => h1.inj b b' R R' (n1 b ha) (hb.imp (n1 b') (n2 b')), h1.bnd, fun b hb => ?_⟩
      have := h1.dis b (n1 b hb)
      cases hx : s1.hi.get b with
      | none => rfl
      | some x => rw [g2 b x hx] at this; cases this
/-- Of a place with the same changes ahead. -/
theorem Inv.near {p : Nat} (hp : p ≤ l.length) (h : ∀ (j : Nat) (lo : LOper), l[j]? = some lo → isChange lo.op = true → (j < c ↔ j < p)) : SRel P ι (s p) w := by
  rcases Nat.le_total c p with hc | hc
  · obtain ⟨d, rfl⟩ : ∃ d, p = c + d := ⟨p - c, by omega⟩
    refine (Inv.fwd hR hI d hp fun j lo h1 h2 h3 => ?_).1
    cases hx : isChange lo.op with
    | false => rfl
    | true => have := (h j lo h3 hx).2 h2; omega
  · obtain ⟨d, rfl⟩ : ∃ d, p = c - d := ⟨c - p, by omega⟩
    have e1 : c - (c - (c - d)) = c - d := by omega
    have := Inv.back hR hI (c - (c - d)) (by omega) fun j lo h1 h2 h3 => ?_
    · rw [e1] at this; exact this
    · cases hx : isChange lo.op with
      | false => rfl
      | true => have := (h j lo h3 hx).1 h2; omega
end
end Go.Ev
/- One operation more is done. -/
namespace Go.Ev
variable {P : Program} {fl : Nat} {F : Fence}
section
variable {E : Evs} {N : Nat} {K : List Nat} {ops : Array Oper} {l : List LOper} {e : Nat → Env} {s : Nat → St} (hR : Run P E fl N K ops l e s)
variable {ι0 ι : Inj} {w0 w : World} {D : List Deferred} {listed : Array Bool} {a : Act} {c : Nat} (hI : Inv P fl N l e s ι0 w0 D listed ι a w c)
variable (hcl : Closed ops listed) {i : Nat} {lo : LOper} (hl : l[i]? = some lo) (hi : i ∈ Region.ready .any ops listed) (hsz : listed.size = ops.size)
 include hR hI hcl hl hi hsz
theorem not_listed : ¬ Lst listed i := by
  have _ := hI; have _ := hcl
  have := (mem_ready.1 hi).1
  unfold Lst
  have hlt : i < l.length := (List.getElem?_eq_some_iff.1 hl).1
  have hlt2 : i < listed.size := by rw [hsz, ← hR.len]; exact hlt
  simp only [Array.getD_eq_getD_getElem?, hlt2, Array.getElem?_eq_getElem, Option.getD_some] at this ⊢
  simp [this]
theorem listed_set (j : Nat) : Lst (listed.setIfInBounds i true) j ↔ Lst listed j ∨ j = i := by
  have _ := hI; have _ := hcl; have _ := hi
  have hlt : i < l.length := (List.getElem?_eq_some_iff.1 hl).1
  have hlt2 : i < listed.size := by rw [hsz, ← hR.len]; exact hlt
  unfold Lst
  by_cases h : i = j
  · subst h; simp [hlt2]
  · rw [getD_set_ne false h]; simp [Ne.symm h]
/-- What is done in the order of the text ahead of it is what is ordered so. -/
theorem pred_of {j : Nat} (h : Ord ops j i) : Lst listed j := by
  have _ := hR; have _ := hI; have _ := hl; have _ := hsz
  exact ready_before hcl hi j h
theorem succ_of {j : Nat} (h : Ord ops i j) : ¬ Lst listed j := fun hx => not_listed hR hI hcl hl hi hsz (hcl.before j hx i h)
/-- The slots that it reads. -/
theorem reads_rel : ERel ι (only (e i) (reads lo)) a.tmps := by
  intro t v hv
  rw [only_look] at hv
  split at hv
  · rename_i ht
    have hlt : i < l.length := (List.getElem?_eq_some_iff.1 hl).1
    refine hI.slots i t (by omega) (fun j lj hj hd => ?_) v hv
    have hdm : t ∈ odst lj := by simp [odst, hd]
    rcases Nat.lt_trichotomy j i with h | h | h
    · have : Ord ops j i := Classical.byContradiction fun hn => disj_spec (hR.free j i lj lo hj hl h hn).1 t hdm (by simp [ht])
      exact ⟨fun _ => h, fun _ => pred_of hR hI hcl hl hi hsz this⟩
    · subst h; exact ⟨fun hx => absurd hx (not_listed hR hI hcl hl hi hsz), fun h => by omega⟩
    · have : Ord ops i j := Classical.byContradiction fun hn => disj_spec (hR.free i j lo lj hl hj h hn).2.1 t hdm ht
      exact ⟨fun hx => absurd hx (succ_of hR hI hcl hl hi hsz this), fun h => by omega⟩
  · cases hv
theorem slots_step {ι' : Inj} (hx : Ext ι ι') {v : Option Value} {u : Value} (he : e (i + 1) = putD (e i) lo.loc lo.dst v) (hv : ∀ x, v = some x → VRel ι' x u) {dst : Option Tmp} (hdst : dst = lo.dst) :
    ∀ p t, p ≤ l.length → (∀ (j : Nat) (lj : LOper), l[j]? = some lj → lj.dst = some t → (Lst (listed.setIfInBounds i true) j ↔ j < p)) → ∀ x, (e p).look t = some x → ∃ x', (a.put dst u).tmps[t]? = some x' ∧ VRel ι' x x' := by
  subst hdst
  intro p t hp hw x hx'
  have hset := listed_set hR hI hcl hl hi hsz
  have hni := not_listed hR hI hcl hl hi hsz
  have hlt : i < l.length := (List.getElem?_eq_some_iff.1 hl).1
  obtain ⟨o, m, hoi, _, _, hdo, hN, hK, _⟩ := hR.rel i lo hl
  by_cases ht : lo.dst = some t
  · have hip : i < p := (hw i lo hl ht).1 ((hset i).2 (.inr rfl))
    have key : ∀ d, i + 1 + d ≤ p → (e (i + 1 + d)).look t = (e (i + 1)).look t := by
      intro d
      induction d with
      | zero => intro _; rfl
      | succ d ih =>
        intro hd
        rw [← ih (by omega)]
        have hq : l[i + 1 + d]? = some l[i + 1 + d] := by simp [show i + 1 + d < l.length by omega]
        generalize l[i + 1 + d] = lq at hq
        have hnw : lq.dst ≠ some t := by
          intro hdq
          have hxq : Lst listed (i + 1 + d) := by
            rcases (hset (i + 1 + d)).1 ((hw _ lq hq hdq).2 (by omega)) with h | h
            · exact h
            · omega
          have : Ord ops i (i + 1 + d) := Classical.byContradiction fun hn => disj_spec (hR.free i (i + 1 + d) lo lq hl hq (by omega) hn).1 t (by simp [odst, ht]) (by simp [odst, hdq])
          exact succ_of hR hI hcl hl hi hsz this hxq
        obtain ⟨v2, hv2, _⟩ := eOper_inv (hR.step _ _ hq)
        rw [show i + 1 + (d + 1) = i + 1 + d + 1 by omega, hv2]
        cases hdq : lq.dst with
        | none => rfl
        | some dq =>
          obtain ⟨o2, _, _, _, _, hdo2, _, hK2, _⟩ := hR.rel _ _ hq
          rw [(look_put (hR.einv (i + 1 + d) (by omega)) (hK2 dq (by rw [← hdo2]; exact hdq)) v2).1, if_neg]
          rintro rfl; exact hnw hdq
    have := key (p - (i + 1)) (by omega)
    rw [show i + 1 + (p - (i + 1)) = p by omega] at this
    rw [this, he, ht, (look_put (hR.einv i (by omega)) (hK t (by rw [← hdo]; exact ht)) v).1, if_pos rfl] at hx'
    refine ⟨u, ?_, hv x hx'⟩
    have : t < a.tmps.size := by rw [hI.size]; exact hN t (by rw [← hdo]; exact ht)
    simp [Act.put, ht, this]
  · have hs := hI.slots p t hp (fun j lj hj hd => by
      have hne : j ≠ i := fun h => by subst h; rw [hl] at hj; cases hj; exact ht hd
      rw [← hw j lj hj hd, hset j]; simp [hne]) x hx'
    obtain ⟨x', h1, h2⟩ := hs
    refine ⟨x', ?_, h2.mono hx⟩
    cases hd : lo.dst with
    | none => simpa [Act.put] using h1
    | some d =>
      have : d ≠ t := fun h => ht (by rw [hd, h])
      simp only [Act.put]
      rw [Array.getElem?_setIfInBounds_ne this]; exact h1
theorem put_size (dst : Option Tmp) (u : Value) : (a.put dst u).tmps.size = N ∧ (a.put dst u).defers = D := by
  have _ := hR; have _ := hcl; have _ := hl; have _ := hi; have _ := hsz
  cases dst <;> simp [Act.put, hI.size, hI.defers]
/-- An operation that looks at no state, or leaves it as it is. -/
theorem step_calm (hnc : isChange lo.op = false) {ι' : Inj} {w' : World} {v : Option Value} {u : Value} (he : e (i + 1) = putD (e i) lo.loc lo.dst v) (hv : ∀ x, v = some x → VRel ι' x u) {dst : Option Tmp} (hdst : dst = lo.dst)
    (hι : ∀ b, (b ≠ (s i).k ∨ s (i + 1) = s i) → ι' b = ι b) (hheap : ∀ r, r < w.heap.size → w'.heap[r]? = w.heap[r]?) (hsize : w.heap.size ≤ w'.heap.size) (hsame : w'.os = w.os ∧ w'.tape = w.tape ∧ w'.output = w.output)
    (hnew : s (i + 1) = s i ∨ ∃ imm o, s (i + 1) = (s i).add imm o ∧ ∀ R, ι' (s i).k = some R → w.heap.size ≤ R.r ∧ R.r < w'.heap.size ∧ ObRel P ι' (!imm) R w'.heap[R.r]? o) :
    Inv P fl N l e s ι0 w0 D (listed.setIfInBounds i true) ι' (a.put dst u) w' c := by
  have hset := listed_set hR hI hcl hl hi hsz
  have hni := not_listed hR hI hcl hl hi hsz
  have hlt : i < l.length := (List.getElem?_eq_some_iff.1 hl).1
  have hx : Ext ι ι' := by
    intro b R hb
    by_cases h : b ≠ (s i).k ∨ s (i + 1) = s i
    · rw [hι b h]; exact hb
    · have h1 : b = (s i).k := Classical.byContradiction fun x => h (.inl x)
      rcases hnew with h2 | ⟨imm, o, h2, _⟩
      · exact absurd (.inr h2) h
      · have := hI.un i hlt hni b (by omega) (by rw [h2, add_k]; omega)
        rw [this] at hb; cases hb
  have hnewR : ∀ b R, ι' b = some R → ι b = some R ∨ (b = (s i).k ∧ w.heap.size ≤ R.r ∧ R.r < w'.heap.size ∧ ∃ imm o, s (i + 1) = (s i).add imm o ∧ ObRel P ι' (!imm) R w'.heap[R.r]? o) := by
    intro b R hb
    by_cases h : b ≠ (s i).k ∨ s (i + 1) = s i
    · left; rw [← hι b h]; exact hb
    · right
      have h1 : b = (s i).k := Classical.byContradiction fun x => h (.inl x)
      rcases hnew with h2 | ⟨imm, o, h2, h3⟩
      · exact absurd (.inr h2) h
      · subst h1
        obtain ⟨q1, q2, q3⟩ := h3 R hb
        exact ⟨rfl, q1, q2, imm, o, h2, q3⟩
  have hob : ∀ {m : Bool} {R : Real} {x : LObj}, R.r < w.heap.size → ObRel P ι m R w.heap[R.r]? x → ObRel P ι' m R w'.heap[R.r]? x := fun h1 h2 => by rw [hheap _ h1]; exact h2.mono hx
  have hlive : ∀ b, (s c).k ≤ b → (s c).hm.get b = none ∧ (s c).hi.get b = none := hI.wf c (Nat.le_refl _)
  have hbirth : ∀ {imm : Bool} {o : LObj}, s (i + 1) = (s i).add imm o → (s i).k < (s c).k → (s c).hm.get (s i).k = (if imm = false then some o else none) ∧ (s c).hi.get (s i).k = (if imm = true then some o else none) := by
    intro imm o h hk
    have hic : i < c := Classical.byContradiction fun hx => by have := hR.k (i := c) (j := i) (by omega) (by omega); omega
    have := hI.kept i hic hni (s i).k (Nat.le_refl _) (by rw [h, add_k]; omega)
    have hwf := hI.wf i (by omega) (s i).k (Nat.le_refl _)
    rw [this.1, this.2, h, (add_get _ _ _ _).1, (add_get _ _ _ _).2]
    cases imm <;> simp [hwf.1, hwf.2]
  refine ⟨hI.cle, ?_, ⟨?_, ?_, ?_, ?_, hI.srel.dis⟩, hI.wf, ?_, ?_, ?_, ⟨?_, ?_, ?_, ?_, ?_, ?_, ?_, ?_, ?_, ?_, ?_⟩, slots_step hR hI hcl hl hi hsz hx he hv hdst, (put_size hR hI hcl hl hi hsz dst u).1, (put_size hR hI hcl hl hi hsz dst u).2⟩
  · intro j lj hj hc
    have hne : j ≠ i := fun h => by subst h; rw [hl] at hj; cases hj; rw [hnc] at hc; cases hc
    rw [hset j, ← hI.pos j lj hj hc]; simp [hne]
  · intro b o R hb hr
    have hbk : b < (s c).k := Classical.byContradiction fun hx => by rw [(hlive b (by omega)).1] at hb; cases hb
    rcases hnewR b R hr with h | ⟨rfl, h1, h2, imm, o', h3, h4⟩
    · exact hob (hI.srel.bnd b R h) (hI.srel.hm b o R hb h)
    · rw [(hbirth h3 hbk).1] at hb
      split at hb
      · rename_i hm; subst hm; cases hb; exact h4
      · cases hb
  · intro b o R hb hr
    have hbk : b < (s c).k := Classical.byContradiction fun hx => by rw [(hlive b (by omega)).2] at hb; cases hb
    rcases hnewR b R hr with h | ⟨rfl, h1, h2, imm, o', h3, h4⟩
    · exact hob (hI.srel.bnd b R h) (hI.srel.hi b o R hb h)
    · rw [(hbirth h3 hbk).2] at hb
      split at hb
      · rename_i hm; subst hm; cases hb; exact h4
      · cases hb
  · intro b b' R R' h1 h2 hb hb' hr
    rcases hnewR b R hb with h | ⟨e1, q1, _⟩ <;> rcases hnewR b' R' hb' with h' | ⟨e1', q1', _⟩
    · exact hI.srel.inj b b' R R' h1 h2 h h' hr
    · have := hI.srel.bnd b R h; omega
    · have := hI.srel.bnd b' R' h'; omega
    · rw [e1, e1']
  · intro b R hb
    rcases hnewR b R hb with h | ⟨_, _, q2, _⟩
    · have := hI.srel.bnd b R h; omega
    · exact q2
  · intro j hcj hj hxj
    by_cases hji : j = i
    · subst hji
      rcases hnew with h | ⟨imm, o, h1, h2⟩
      · exact .inl h
      · refine .inr ⟨imm, o, h1, fun R hr => ?_⟩
        obtain ⟨q1, q2, q3⟩ := h2 R hr
        refine ⟨q2, q3, fun b R' hb' hr' => ?_⟩
        rcases hnewR b R' hb' with h | ⟨e1, _⟩
        · have := hI.srel.bnd b R' h; omega
        · exact e1
    · have hxj' : Lst listed j := by
        rcases (hset j).1 hxj with h | h
        · exact h
        · exact absurd h hji
      rcases hI.birth j hcj hj hxj' with h | ⟨imm, o, h1, h2⟩
      · exact .inl h
      · refine .inr ⟨imm, o, h1, fun R hr => ?_⟩
        rcases hnewR _ R hr with h | ⟨e1, _, _, imm', o', h3, _⟩
        · obtain ⟨q1, q2, q3⟩ := h2 R h
          refine ⟨by omega, hob q1 q2, fun b R' hb' hr' => ?_⟩
          rcases hnewR b R' hb' with h' | ⟨_, p1, _⟩
          · exact q3 b R' h' hr'
          · omega
        · exact absurd (hR.apart hj hlt (Nat.le_refl _) (by rw [h1, add_k]; omega) (by omega) (by rw [h3, add_k]; omega)) hji
  · intro j hj hxj b h1 h2
    have hji : j ≠ i := fun h => hxj ((hset j).2 (.inr h))
    have hxj' : ¬ Lst listed j := fun h => hxj ((hset j).2 (.inl h))
    have := hI.un j hj hxj' b h1 h2
    by_cases h : b ≠ (s i).k ∨ s (i + 1) = s i
    · rw [hι b h]; exact this
    · exfalso
      have e1 : b = (s i).k := Classical.byContradiction fun x => h (.inl x)
      rcases hnew with h3 | ⟨imm, o, h3, _⟩
      · exact h (.inr h3)
      · exact hji (hR.apart hj hlt h1 h2 (by omega) (by rw [h3, add_k]; omega))
  · intro j hj hxj b h1 h2
    exact hI.kept j hj (fun h => hxj ((hset j).2 (.inl h))) b h1 h2
  · exact hI.post.k
  · intro b hb
    have hk1 := hR.k (i := 0) (j := i) (by omega) (by omega)
    have hk2 := hR.k (i := i + 1) (j := l.length) (by omega) (by omega)
    rw [hι b ?_]
    · exact hI.post.old b hb
    · by_cases h : s (i + 1) = s i
      · exact .inr h
      · left
        rcases hnew with h3 | ⟨imm, o, h3, _⟩
        · exact absurd h3 h
        · rw [h3, add_k] at hk2
          have : b < (s 0).k ∨ (s l.length).k ≤ b := hb
          omega
  · intro b R h1 h2 hb
    rcases hnewR b R hb with h | ⟨_, q1, _⟩
    · exact hI.post.rng b R h1 h2 h
    · left; have := hI.post.size; omega
  · exact Nat.le_trans hI.post.size hsize
  · intro r hr H
    rw [hheap r (Nat.lt_of_lt_of_le hr hI.post.size)]
    exact hI.post.frame r hr H
  · exact hI.post.unreal
  · exact hI.post.flr
  · exact hI.post.imm
  · exact hI.post.dead
  · exact hI.post.wf
  · exact ⟨hsame.1.trans hI.post.same.1, hsame.2.1.trans hI.post.same.2.1, hsame.2.2.trans hI.post.same.2.2⟩
end
end Go.Ev
/- A change is done. -/
namespace Go.Ev
variable {P : Program} {fl : Nat} {F : Fence}
section
variable {E : Evs} {N : Nat} {K : List Nat} {ops : Array Oper} {l : List LOper} {e : Nat → Env} {s : Nat → St} (hR : Run P E fl N K ops l e s)
 include hR
theorem Run.same {p : Nat} : ∀ (d : Nat), p + d ≤ l.length → (∀ (j : Nat) (lo : LOper), p ≤ j → j < p + d → l[j]? = some lo → isChange lo.op = false) →
    ∀ b, b < (s p).k → (s (p + d)).hm.get b = (s p).hm.get b ∧ (s (p + d)).hi.get b = (s p).hi.get b
  | 0, _, _ => fun _ _ => ⟨rfl, rfl⟩
  | d + 1, hd, hn => by
    intro b hb
    obtain ⟨h1, h2⟩ := Run.same d (by omega) (fun j lo ha hb => hn j lo ha (by omega)) b hb
    have hl : l[p + d]? = some l[p + d] := by simp [show p + d < l.length by omega]
    have hk := hR.k (i := p) (j := p + d) (by omega) (by omega)
    rw [show p + (d + 1) = p + d + 1 by omega]
    rcases nonchange (hR.step _ _ hl) (hn (p + d) _ (by omega) (by omega) hl) with h | ⟨imm, o, h⟩
    · rw [h]; exact ⟨h1, h2⟩
    · rw [h, (add_get _ imm o b).1, (add_get _ imm o b).2, if_neg (by omega), if_neg (by omega)]; exact ⟨h1, h2⟩
variable {ι0 ι : Inj} {w0 w : World} {D : List Deferred} {listed : Array Bool} {a : Act} {c : Nat} (hI : Inv P fl N l e s ι0 w0 D listed ι a w c)
variable (hcl : Closed ops listed) {i : Nat} {lo : LOper} (hl : l[i]? = some lo) (hi : i ∈ Region.ready .any ops listed) (hsz : listed.size = ops.size)
 include hI hcl hl hi hsz
theorem change_ready (hch : isChange lo.op = true) : c ≤ i ∧ (∀ (j : Nat) (lj : LOper), c ≤ j → j < i → l[j]? = some lj → isChange lj.op = false) := by
  have hci : c ≤ i := Classical.byContradiction fun h => not_listed hR hI hcl hl hi hsz ((hI.pos i lo hl hch).2 (by omega))
  refine ⟨hci, fun j lj h1 h2 hj => ?_⟩
  cases hx : isChange lj.op with
  | false => rfl
  | true =>
    have : Ord ops j i := Classical.byContradiction fun hn => by
      have := (hR.free j i lj lo hj hl h2 hn).2.2.1
      rw [hx, hch] at this; cases this
    have := (hI.pos j lj hj hx).1 (pred_of hR hI hcl hl hi hsz this)
    omega
theorem change_state (hch : isChange lo.op = true) : SRel P ι (s i) w ∧ (∀ j, j ≤ i → LWF (s j)) ∧ (∀ b, b < (s c).k → (s i).hm.get b = (s c).hm.get b ∧ (s i).hi.get b = (s c).hi.get b) := by
  obtain ⟨hci, hn⟩ := change_ready hR hI hcl hl hi hsz hch
  have hlt : i < l.length := (List.getElem?_eq_some_iff.1 hl).1
  obtain ⟨d, rfl⟩ : ∃ d, i = c + d := ⟨i - c, by omega⟩
  obtain ⟨h1, h2, h3⟩ := hI.fwd hR d (by omega) (fun j lj a b => hn j lj a b)
  refine ⟨h1, fun j hj => ?_, h3⟩
  by_cases hjc : j ≤ c
  · exact hI.wf j hjc
  · obtain ⟨d', rfl⟩ : ∃ d', j = c + d' := ⟨j - c, by omega⟩
    exact (hI.fwd hR d' (by omega) (fun j lj a b => hn j lj a (by omega))).2.1
theorem step_change (hch : isChange lo.op = true) (hfl0 : fl ≤ (s 0).k) {ι' : Inj} {w' : World} {v : Option Value} {u : Value} (he : e (i + 1) = putD (e i) lo.loc lo.dst v) (hv : ∀ x, v = some x → VRel ι' x u) {dst : Option Tmp} (hdst : dst = lo.dst)
    (hp : Post fl ι (s i) w ι' (s (i + 1)) w') (hs : SRel P ι' (s (i + 1)) w') : Inv P fl N l e s ι0 w0 D (listed.setIfInBounds i true) ι' (a.put dst u) w' (i + 1) := by
  have hset := listed_set hR hI hcl hl hi hsz
  have hni := not_listed hR hI hcl hl hi hsz
  have hlt : i < l.length := (List.getElem?_eq_some_iff.1 hl).1
  obtain ⟨hci, hn⟩ := change_ready hR hI hcl hl hi hsz hch
  obtain ⟨hsi, hwf, hgets⟩ := change_state hR hI hcl hl hi hsz hch
  have hwi := hwf i (Nat.le_refl _)
  have hk0i := hR.k (i := 0) (j := i) (by omega) (by omega)
  have hkci := hR.k (i := c) (j := i) hci (by omega)
  have hk0c := hR.k (i := 0) (j := c) (by omega) (by omega)
  have hkin := hR.k (i := i + 1) (j := l.length) (by omega) (by omega)
  have hkii := hR.k1 hlt
  have hx : Ext ι ι' := hp.ext ⟨hwi, fun b h1 h2 => hI.un i hlt hni b h1 h2⟩
  refine ⟨by omega, ?_, hs, ?_, ?_, ?_, ?_, ⟨?_, ?_, ?_, ?_, ?_, ?_, ?_, ?_, ?_, ?_, ?_⟩, slots_step hR hI hcl hl hi hsz hx he hv hdst, (put_size hR hI hcl hl hi hsz dst u).1, (put_size hR hI hcl hl hi hsz dst u).2⟩
  · intro j lj hj hc
    rw [hset j]
    have hpj := hI.pos j lj hj hc
    constructor
    · rintro (h | h)
      · have := hpj.1 h; omega
      · omega
    · intro h
      by_cases hji : j = i
      · exact .inr hji
      · left
        by_cases hjc : j < c
        · exact hpj.2 hjc
        · have := hn j lj (by omega) (by omega) hj; rw [hc] at this; cases this
  · intro j hj
    by_cases hji : j ≤ i
    · exact hwf j hji
    · have : j = i + 1 := by omega
      subst this; exact hp.wf
  · intro j hij hj hxj
    have hxj' : Lst listed j := by
      rcases (hset j).1 hxj with h | h
      · exact h
      · omega
    have hkj := hR.k (i := i + 1) (j := j) hij (by omega)
    rcases hI.birth j (by omega) hj hxj' with h | ⟨imm, o, h1, h2⟩
    · exact .inl h
    · refine .inr ⟨imm, o, h1, fun R hr => ?_⟩
      rw [hp.old _ (.inr hkj)] at hr
      obtain ⟨q1, q2, q3⟩ := h2 R hr
      have hnl : (s i).hm.get (s j).k = none := (hwi _ (by omega)).1
      refine ⟨Nat.lt_of_lt_of_le q1 hp.size, ?_, fun b R' hb hr' => ?_⟩
      · rw [hp.frame R.r q1 fun b R' hb hr' => by rw [q3 b R' hb hr']; exact .inr hnl]
        exact q2.mono hx
      · by_cases hbo : b < (s i).k ∨ (s (i + 1)).k ≤ b
        · rw [hp.old b hbo] at hb; exact q3 b R' hb hr'
        · rcases hp.rng b R' (by omega) (by omega) hb with h | ⟨b0, R0, g1, g2, g3, g4⟩
          · omega
          · have := q3 b0 R0 g1 (by omega)
            rw [this] at g4; exact absurd hnl g4
  · intro j hj hxj b h1 h2
    have hji : j ≠ i := fun h => hxj ((hset j).2 (.inr h))
    have hxj' : ¬ Lst listed j := fun h => hxj ((hset j).2 (.inl h))
    rw [hp.old b ?_]
    · exact hI.un j hj hxj' b h1 h2
    · by_cases hb : b < (s i).k
      · exact .inl hb
      · by_cases hb2 : (s (i + 1)).k ≤ b
        · exact .inr hb2
        · exact absurd (hR.apart hj hlt h1 h2 (by omega) (by omega)) hji
  · intro j hj hxj b h1 h2
    have hji : j ≠ i := fun h => hxj ((hset j).2 (.inr h))
    have hxj' : ¬ Lst listed j := fun h => hxj ((hset j).2 (.inl h))
    have hkj := hR.k (i := j + 1) (j := i) (by omega) (by omega)
    have hun := hp.unreal b (by omega) (hI.un j (by omega) hxj' b h1 h2)
    rw [hun.1, hun.2]
    by_cases hjc : j < c
    · have h3 := hI.kept j hjc hxj' b h1 h2
      have hkc := hR.k (i := j + 1) (j := c) (by omega) (by omega)
      have h4 := hgets b (by omega)
      exact ⟨h4.1.trans h3.1, h4.2.trans h3.2⟩
    · obtain ⟨d, hd⟩ : ∃ d, i = j + 1 + d := ⟨i - (j + 1), by omega⟩
      have := hR.same (p := j + 1) d (by omega) (fun q lq a b hq => hn q lq (by omega) (by omega) hq) b h2
      rw [← hd] at this; exact this
  · exact hR.k (i := 0) (j := l.length) (by omega) (Nat.le_refl _)
  · intro b hb
    have hb' : b < (s 0).k ∨ (s l.length).k ≤ b := hb
    rw [hp.old b (by omega)]
    exact hI.post.old b hb
  · intro b R h1 h2 hb
    by_cases hbo : b < (s i).k ∨ (s (i + 1)).k ≤ b
    · rw [hp.old b hbo] at hb; exact hI.post.rng b R h1 h2 hb
    · rcases hp.rng b R (by omega) (by omega) hb with h | ⟨b0, R0, g1, g2, g3, g4⟩
      · left; have := hI.post.size; omega
      · have hb0 : b0 < (s i).k := Classical.byContradiction fun h => g4 (hwi b0 (by omega)).1
        by_cases hb00 : b0 < (s 0).k
        · right
          refine ⟨b0, R0, ?_, g2, g3, fun h => g4 ?_⟩
          · rw [← hI.post.old b0 (.inl hb00)]; exact g1
          · have := hI.post.dead b0 hb00 h
            have h5 := (hgets b0 (by omega)).1
            rw [h5]; exact this
        · rcases hI.post.rng b0 R0 (by omega) (by show b0 < (s l.length).k; omega) g1 with h | ⟨b1, R1, p1, p2, p3, p4⟩
          · left; omega
          · right; exact ⟨b1, R1, p1, by omega, p3, p4⟩
  · exact Nat.le_trans hI.post.size hp.size
  · intro r hr H
    rw [hp.frame r (Nat.lt_of_lt_of_le hr hI.post.size), hI.post.frame r hr H]
    intro b R hb hr'
    by_cases hb0 : b < (s 0).k ∨ (s l.length).k ≤ b
    · rw [hI.post.old b hb0] at hb
      rcases H b R hb hr' with h | h
      · exact .inl h
      · right
        rcases hb0 with hb0 | hb0
        · rw [(hgets b (by omega)).1]; exact hI.post.dead b hb0 h
        · exact (hwi b (by omega)).1
    · rcases hI.post.rng b R (by omega) (by show b < (s l.length).k; omega) hb with h | ⟨b0, R0, g1, g2, g3, g4⟩
      · omega
      · rcases H b0 R0 g1 (by omega) with h | h
        · omega
        · exact absurd h g4
  · intro b hb hn0
    have h1 := hI.post.unreal b hb hn0
    have h2 := hgets b (by omega)
    have h3 := hp.unreal b (by omega) (by rw [hI.post.old b (.inl hb)]; exact hn0)
    exact ⟨h3.1.trans (h2.1.trans h1.1), h3.2.trans (h2.2.trans h1.2)⟩
  · intro b hb
    exact (hp.flr b hb).trans ((hgets b (by omega)).1.trans (hI.post.flr b hb))
  · intro b o ho
    have hb : b < (s 0).k := Classical.byContradiction fun h => by
      have := (hI.wf 0 (by omega) b (by omega)).2; rw [this] at ho; cases ho
    have h1 := hI.post.imm b o ho
    exact hp.imm b o ((hgets b (by omega)).2.trans h1)
  · intro b hb h
    have h1 := hI.post.dead b hb h
    exact hp.dead b (by omega) ((hgets b (by omega)).1.trans h1)
  · intro b hb
    exact hp.wf b (Nat.le_trans hkin hb)
  · exact ⟨hp.same.1.trans hI.post.same.1, hp.same.2.1.trans hI.post.same.2.1, hp.same.2.2.trans hI.post.same.2.2⟩
end
end Go.Ev
/- Any order that is allowed comes to what the text's order comes to. -/
namespace Go.Ev
variable {P : Program} {fl : Nat} {F : Fence}
theorem want_congr {e e2 : Env} {o : LOper} (h : ∀ t ∈ gslot o, e2.look t = e.look t) : want e2 o.guard = want e o.guard := by
  unfold gslot at h
  cases hg : o.guard with
  | none => rfl
  | some p => obtain ⟨g, b⟩ := p; rw [hg] at h; simp only [want, h g (by simp)]
theorem exists_min {p : Nat → Prop} : ∀ (n : Nat), p n → ∃ m, p m ∧ m ≤ n ∧ ∀ j, j < m → ¬ p j := by
  intro n
  induction n using Nat.strongRecOn with
  | _ n ih =>
    intro h
    by_cases hx : ∃ j, j < n ∧ p j
    · obtain ⟨j, h1, h2⟩ := hx
      obtain ⟨m, g1, g2, g3⟩ := ih j h1 h2
      exact ⟨m, g1, by omega, g3⟩
    · exact ⟨n, h, Nat.le_refl _, fun j hj hp => hx ⟨j, hj, hp⟩⟩
theorem exists_max {p : Nat → Prop} : ∀ (d n c : Nat), c ≤ n + d → n < c → p n → ∃ m, p m ∧ n ≤ m ∧ m < c ∧ ∀ j, m < j → j < c → ¬ p j := by
  intro d
  induction d with
  | zero => intro n c h1 h2; omega
  | succ d ih =>
    intro n c h1 h2 hp
    by_cases hx : ∃ j, n < j ∧ j < c ∧ p j
    · obtain ⟨j, g1, g2, g3⟩ := hx
      obtain ⟨m, q1, q2, q3, q4⟩ := ih j c (by omega) g2 g3
      exact ⟨m, q1, by omega, q3, q4⟩
    · exact ⟨n, hp, Nat.le_refl _, h2, fun j a b hp => hx ⟨j, a, b, hp⟩⟩
def bare (k : Nat) : St := ⟨.leaf, .leaf, k⟩
theorem bare_srel {ι : Inj} {w : World} (h : ∀ b R, ι b = some R → R.r < w.heap.size) (k : Nat) : SRel P ι (bare k) w :=
  ⟨fun b o R hb => by simp [bare] at hb, fun b o R hb => by simp [bare] at hb, fun b b' R R' hb => by simp [bare] at hb, h, fun b hb => by simp [bare] at hb⟩
section
variable {E : Evs} {N : Nat} {K : List Nat} {ops : Array Oper} {l : List LOper} {e : Nat → Env} {s : Nat → St} (hR : Run P E fl N K ops l e s)
variable {ι0 ι : Inj} {w0 w : World} {D : List Deferred} {listed : Array Bool} {a : Act} {c : Nat} (hI : Inv P fl N l e s ι0 w0 D listed ι a w c)
variable (hcl : Closed ops listed) {i : Nat} {lo : LOper} (hl : l[i]? = some lo) (hi : i ∈ Region.ready .any ops listed) (hsz : listed.size = ops.size)
 include hR hI hcl hl hi hsz
/-- A state that holds now, in which a load reads what it read in the text's order. -/
theorem load_place (hld : isLoad lo.op = true) {key : Nat × Nat × Nat} (hk : keyAt (e i) lo = some key) : ∃ q, SRel P ι (s q) w ∧ (s q).ld key.1 key.2.1 key.2.2 = (s i).ld key.1 key.2.1 key.2.2 := by
  have hlt : i < l.length := (List.getElem?_eq_some_iff.1 hl).1
  have hcn := hI.cle
  have hnc : isChange lo.op = false := by cases h : lo.op <;> simp [h, isLoad] at hld; rfl
  let p : Nat → Prop := fun j => ∃ lj, l[j]? = some lj ∧ isChange lj.op = true
  by_cases hci : c ≤ i
  · by_cases hx : ∃ j, (c ≤ j ∧ j < i) ∧ p j
    · obtain ⟨j0, h0⟩ := hx
      obtain ⟨q, ⟨⟨q1, q2⟩, lq, q3, q4⟩, _, q6⟩ := exists_min (p := fun j => (c ≤ j ∧ j < i) ∧ p j) j0 h0
      refine ⟨q, hI.near hR (by omega) fun j lj hj hch => ?_, ?_⟩
      · constructor
        · intro h; omega
        · intro h; exact Classical.byContradiction fun hn => q6 j h ⟨⟨by omega, by omega⟩, lj, hj, hch⟩
      · refine (hR.pairs i q lo lq hl q3 hld q4 (by omega) (fun h => by omega) (fun _ ho => ?_) key hk).1
        have := (hI.pos q lq q3 q4).1 (pred_of hR hI hcl hl hi hsz ho); omega
    · refine ⟨i, hI.near hR (by omega) fun j lj hj hch => ⟨fun h => by omega, fun h => Classical.byContradiction fun hn => hx ⟨j, ⟨by omega, h⟩, lj, hj, hch⟩⟩, rfl⟩
  · by_cases hx : ∃ j, (i < j ∧ j < c) ∧ p j
    · obtain ⟨j0, h0⟩ := hx
      obtain ⟨q, ⟨⟨q1, q2⟩, lq, q3, q4⟩, _, _, q6⟩ := exists_max (p := fun j => (i < j ∧ j < c) ∧ p j) c j0 c (by omega) h0.1.2 h0
      refine ⟨q + 1, hI.near hR (by omega) fun j lj hj hch => ?_, ?_⟩
      · constructor
        · intro h; exact Classical.byContradiction fun hn => q6 j (by omega) h ⟨⟨by omega, h⟩, lj, hj, hch⟩
        · intro h; omega
      · refine (hR.pairs i q lo lq hl q3 hld q4 (by omega) (fun _ ho => ?_) (fun h => by omega) key hk).2
        exact succ_of hR hI hcl hl hi hsz ho ((hI.pos q lq q3 q4).2 q2)
    · refine ⟨i, hI.near hR (by omega) fun j lj hj hch => ⟨fun h => Classical.byContradiction fun hn => ?_, fun h => by omega⟩, rfl⟩
      by_cases hji : j = i
      · subst hji; rw [hl] at hj; cases hj; rw [hnc] at hch; cases hch
      · exact hx ⟨j, ⟨by omega, h⟩, lj, hj, hch⟩
theorem look_place (hlk : isLook lo.op = true) : SRel P ι (s i) w := by
  have hlt : i < l.length := (List.getElem?_eq_some_iff.1 hl).1
  have hnc : isChange lo.op = false := by cases h : lo.op <;> simp [h, isLook] at hlk <;> rfl
  refine hI.near hR (by omega) fun j lj hj hch => ?_
  rw [← hI.pos j lj hj hch]
  rcases Nat.lt_trichotomy j i with h | h | h
  · have : Ord ops j i := Classical.byContradiction fun hn => by
      have := (hR.free j i lj lo hj hl h hn).2.2.2.1
      rw [hch, hlk] at this; cases this
    exact ⟨fun _ => h, fun _ => pred_of hR hI hcl hl hi hsz this⟩
  · subst h; rw [hl] at hj; cases hj; rw [hnc] at hch; cases hch
  · have : Ord ops i j := Classical.byContradiction fun hn => by
      have := (hR.free i j lo lj hl hj h hn).2.2.2.2
      rw [hlk, hch] at this; cases this
    exact ⟨fun hx => absurd hx (succ_of hR hI hcl hl hi hsz this), fun h => by omega⟩
theorem step_any (hV : SoundV P E) (hFk : FOk F) (hfl0 : fl ≤ (s 0).k) {Q : Exit → Act → World → Prop} {Kc : Act → World → Prop}
    (hK : ∀ a' w' ι' c', Inv P fl N l e s ι0 w0 D (listed.setIfInBounds i true) ι' a' w' c' → Kc a' w') : wpOpIn F 0 P ops Q i Kc a w := by
  have hlt : i < l.length := (List.getElem?_eq_some_iff.1 hl).1
  have hni := not_listed hR hI hcl hl hi hsz
  obtain ⟨o, m, hoi, hop, hok, hdst, hN, hKl, hg⟩ := hR.rel i lo hl
  obtain ⟨v, he, hcase⟩ := eOper_inv (hR.step i lo hl)
  have hE := reads_rel hR hI hcl hl hi hsz
  have hk0i := hR.k (i := 0) (j := i) (by omega) (by omega)
  generalize heo : only (e i) (reads lo) = eo at hE
  have hlook : ∀ t, t ∈ reads lo → eo.look t = (e i).look t := fun t ht => by rw [← heo, only_look, if_pos ht]
  have hwant : want eo lo.guard = want (e i) lo.guard := want_congr fun t ht => hlook t (by simp [reads, ht])
  have hop2 : ∀ s2, eOp E fl s2 eo lo.op = eOp E fl s2 (e i) lo.op := fun s2 => eOp_congr fun t ht => hlook t (by simp [reads, ht])
  unfold wpOpIn
  simp only [hoi]
  rcases hcase with ⟨hw, hv⟩ | ⟨hw, rfl, hs⟩
  · rw [← hwant] at hw
    rw [if_pos (want_wanted rfl hE.bools hg hw)]
    refine ⟨fun f _ => hFk.fn f, ?_⟩
    rw [Oper.semAt_eq _ _ _ (nodefer hop)]
    rw [← hop2] at hv
    by_cases hch : isChange lo.op = true
    · obtain ⟨hsi, hwf, _⟩ := change_state hR hI hcl hl hi hsz hch
      refine (op_next hV hE hop hok hsi hv ⟨hwf i (Nat.le_refl _), fun b h1 h2 => hI.un i hlt hni b h1 h2⟩ (by omega)).upon hFk ?_
      rintro u w' ⟨ι', p1, p2, p3⟩
      exact hK _ _ ι' (i + 1) (step_change hR hI hcl hl hi hsz hch hfl0 he p3 hdst.symm p1 p2)
    · have hnc : isChange lo.op = false := by simpa using hch
      rw [eOp_run hnc] at hv
      by_cases hrd : isLoad lo.op = true ∨ isLook lo.op = true
      · have hsame := read_same hrd hv
        have hplace : ∃ s2, SRel P ι s2 w ∧ runOp fl s2 eo lo.op = some (v, s2) := by
          by_cases hlk : isLook lo.op = true
          · exact ⟨s i, look_place hR hI hcl hl hi hsz hlk, by rw [hv, hsame]⟩
          · have hld : isLoad lo.op = true := hrd.resolve_right hlk
            obtain ⟨n, x, hop'⟩ : ∃ n x, lo.op = .load n x := by
              cases h : lo.op <;> simp [h, isLoad] at hld
              exact ⟨_, _, rfl⟩
            rw [hop'] at hv ⊢
            simp only [runOp] at hv ⊢
            unfold rLoad at hv ⊢
            split at hv
            · rename_i p hp
              split at hv
              · rename_i cs hcs
                have hkey : keyAt (e i) lo = some (p.block, p.off, n.getD 1) := by
                  unfold keyAt
                  rw [← hwant, hw]
                  simp only [hop', keyOf]
                  rw [← ev_congr (x := x) (e := e i) (e2 := eo) fun t ht => hlook t (by simp [reads, readsO, hop', ht]), hp]
                obtain ⟨q, q1, q2⟩ := load_place hR hI hcl hl hi hsz (by rw [hop']; rfl) hkey
                refine ⟨s q, q1, ?_⟩
                obtain ⟨_, u, hu, rfl⟩ := some1_inv hv
                simp only at q2
                rw [q2, hcs]; simp [hu, some1]
              · cases hv
            · cases hv
        obtain ⟨s2, h1, h2⟩ := hplace
        obtain ⟨_, u, u', rfl, h4, h5⟩ := read_sound hE hop hok hrd h1 h2
        rw [h4]
        exact hK _ _ ι c (step_calm hR hI hcl hl hi hsz hnc he (fun x hx => by cases hx; exact h5) hdst.symm (fun _ _ => rfl) (fun _ _ => rfl) (Nat.le_refl _) ⟨rfl, rfl, rfl⟩ (.inl hsame))
      · have hbs := bare_srel (P := P) (k := (s i).k) hI.srel.bnd
        have hb1 : ∀ b, (bare (s i).k).hm.get b = none := fun b => by simp [bare]
        rcases indep hnc (by simpa using fun h => hrd (.inl h)) (by simpa using fun h => hrd (.inr h)) hv with ⟨h1, h2⟩ | ⟨imm, ob, h1, h2⟩
        · have hrun := op_sound (P := P) hE hop hok hbs (h2 (bare (s i).k)) ⟨fun b _ => by simp [bare], fun b a b => by simp [bare] at a b; omega⟩ (show fl ≤ (bare (s i).k).k by show fl ≤ (s i).k; omega)
          refine (NextOK.of_op hrun).upon hFk ?_
          rintro u w' ⟨ι', p1, p2, p3⟩
          refine hK _ _ ι' c (step_calm hR hI hcl hl hi hsz hnc he p3 hdst.symm (fun b _ => p1.old b (by show b < (s i).k ∨ (s i).k ≤ b; omega)) (fun r hr => p1.frame r hr fun b R _ _ => .inr (hb1 b)) p1.size p1.same (.inl h1))
        · have hk2 : ((bare (s i).k).add imm ob).k = (s i).k + 1 := by rw [add_k]; rfl
          have hrun := op_sound (P := P) hE hop hok hbs (h2 (bare (s i).k) rfl) ⟨fun b _ => by simp [bare], fun b a b2 => hI.un i hlt hni b a (by rw [h1, add_k]; rw [hk2] at b2; exact b2)⟩ (show fl ≤ (bare (s i).k).k by show fl ≤ (s i).k; omega)
          refine (NextOK.of_op hrun).upon hFk ?_
          rintro u w' ⟨ι', p1, p2, p3⟩
          refine hK _ _ ι' c (step_calm hR hI hcl hl hi hsz hnc he p3 hdst.symm (fun b hb => p1.old b ?_) (fun r hr => p1.frame r hr fun b R _ _ => .inr (hb1 b)) p1.size p1.same (.inr ⟨imm, ob, h1, fun R hr => ?_⟩))
          · rw [hk2]
            show b < (s i).k ∨ (s i).k + 1 ≤ b
            rcases hb with hb | hb
            · omega
            · rw [h1] at hb
              have := congrArg St.k hb
              rw [add_k] at this; omega
          · refine ⟨?_, p2.bnd _ R hr, ?_⟩
            · rcases p1.rng (s i).k R (Nat.le_refl _) (by rw [hk2]; omega) hr with h | ⟨b0, _, _, _, _, h⟩
              · exact h
              · exact absurd (hb1 b0) h
            · have := add_get (bare (s i).k) imm ob (s i).k
              cases imm with
              | false => exact p2.hm _ ob R (by rw [this.1, if_pos ⟨rfl, rfl⟩]) hr
              | true => exact p2.hi _ ob R (by rw [this.2, if_pos ⟨rfl, rfl⟩]) hr
  · rw [← hwant] at hw
    rw [if_neg (by rw [want_wanted rfl hE.bools hg hw]; simp)]
    refine ⟨fun f _ => hFk.fn f, ?_⟩
    by_cases hch : isChange lo.op = true
    · obtain ⟨hsi, hwf, _⟩ := change_state hR hI hcl hl hi hsz hch
      exact hK _ _ ι (i + 1) (step_change hR hI hcl hl hi hsz hch hfl0 he (fun x hx => by cases hx) hdst.symm (by rw [hs]; exact Post.refl ⟨hwf i (Nat.le_refl _), fun b a b => by omega⟩) (by rw [hs]; exact hsi))
    · exact hK _ _ ι c (step_calm hR hI hcl hl hi hsz (by simpa using hch) he (fun x hx => by cases hx) hdst.symm (fun _ _ => rfl) (fun _ _ => rfl) (Nat.le_refl _) ⟨rfl, rfl, rfl⟩ (.inl hs))
end
end Go.Ev
/- A region, its order the text's or open. -/
namespace Go.Ev
variable {P : Program} {fl : Nat} {F : Fence}

theorem run_of {E : Evs} : ∀ (l : List LOper) (e0 : Env) (s0 : St) (en : Env) (sn : St) (tr : Trail), eOpsD E fl l e0 s0 = some (en, sn, tr) →
    ∃ (e : Nat → Env) (s : Nat → St), e 0 = e0 ∧ s 0 = s0 ∧ e l.length = en ∧ s l.length = sn ∧ (∀ (i : Nat) (lo : LOper), l[i]? = some lo → eOper E fl lo (e i) (s i) = some (e (i + 1), s (i + 1)) ∧ tr[i]? = some (s i, keyAt (e i) lo)) ∧ tr[l.length]? = some (sn, none)
  | [], e0, s0, en, sn, tr, h => by
    simp only [eOpsD, Option.some.injEq, Prod.mk.injEq] at h; obtain ⟨rfl, rfl, rfl⟩ := h
    exact ⟨fun _ => e0, fun _ => s0, rfl, rfl, rfl, rfl, fun i lo h => by simp at h, rfl⟩
  | o :: r, e0, s0, en, sn, tr, h => by
    simp only [eOpsD] at h
    split at h
    · rename_i e1 s1 h1
      split at h
      · rename_i e2 s2 tr2 h2
        simp only [Option.some.injEq, Prod.mk.injEq] at h; obtain ⟨rfl, rfl, rfl⟩ := h
        obtain ⟨e, s, g1, g2, g3, g4, g5, g6⟩ := run_of r e1 s1 _ _ _ h2
        refine ⟨fun | 0 => e0 | i + 1 => e i, fun | 0 => s0 | i + 1 => s i, rfl, rfl, g3, g4, fun i lo hl => ?_, by simpa using g6⟩
        cases i with
        | zero =>
          simp only [List.getElem?_cons_zero, Option.some.injEq] at hl; subst hl
          exact ⟨by simp only [g1, g2]; exact h1, rfl⟩
        | succ i =>
          simp only [List.getElem?_cons_succ] at hl
          obtain ⟨q1, q2⟩ := g5 i lo hl
          exact ⟨q1, by simpa using q2⟩
      · cases h
    · cases h
theorem eOpsD_of {E : Evs} : ∀ {l : List LOper} {e e' : Env} {s s' : St}, eOps E fl l e s = some (e', s') → ∃ tr, eOpsD E fl l e s = some (e', s', tr)
  | [], e, e', s, s', h => by
    simp only [eOps, Option.some.injEq, Prod.mk.injEq] at h; obtain ⟨rfl, rfl⟩ := h
    exact ⟨_, rfl⟩
  | o :: r, e, e', s, s', h => by
    simp only [eOps] at h
    split at h
    · rename_i e1 s1 h1
      obtain ⟨tr, ht⟩ := eOpsD_of h
      exact ⟨(s, keyAt e o) :: tr, by simp only [eOpsD, h1, ht]⟩
    · cases h
theorem pairsOk_spec {C : Cfg} {tr : Trail} : ∀ {ps : List (Nat × Nat)}, pairsOk C tr ps = true → ∀ p ∈ ps, pairOk C tr p = true
  | [], _, p, hp => by cases hp
  | q :: ps, h, p, hp => by
    simp only [pairsOk] at h
    split at h
    · rename_i hq
      rcases List.mem_cons.1 hp with rfl | hp
      · exact hq
      · exact pairsOk_spec h p hp
    · cases h
theorem pairsAt_mem {b : List Nat} {l : List LOper} {i : Nat} : ∀ (r : List LOper) (k j : Nat) (y : LOper), r[j]? = some y → isChange y.op = true → unord b i (k + j) = true → i ≠ k + j → (i, k + j) ∈ pairsAt b l i r k
  | [], k, j, y, h, _, _, _ => by simp at h
  | x :: r, k, 0, y, h, h1, h2, h3 => by
    simp only [List.getElem?_cons_zero, Option.some.injEq] at h; subst h
    simp only [Nat.add_zero] at h2 h3
    simp only [pairsAt, h1, h2, nbeq, h3, decide_false, Bool.not_false, Bool.and_self, if_true, Nat.add_zero, List.mem_cons, true_or]
  | x :: r, k, j + 1, y, h, h1, h2, h3 => by
    simp only [List.getElem?_cons_succ] at h
    have e : k + (j + 1) = k + 1 + j := by omega
    rw [e] at h2 h3 ⊢
    have := pairsAt_mem (b := b) (l := l) r (k + 1) j y h h1 h2 h3
    simp only [pairsAt]
    split
    · exact List.mem_cons_of_mem _ this
    · exact this
theorem pairsOf_mem {b : List Nat} {l : List LOper} : ∀ (r : List LOper) (k i : Nat) (x : LOper) (j : Nat) (y : LOper), r[i]? = some x → isLoad x.op = true → l[j]? = some y → isChange y.op = true → unord b (k + i) j = true → k + i ≠ j → (k + i, j) ∈ pairsOf b l r k
  | [], k, i, x, j, y, h, _, _, _, _, _ => by simp at h
  | z :: r, k, 0, x, j, y, h, h1, h2, h3, h4, h5 => by
    simp only [List.getElem?_cons_zero, Option.some.injEq] at h; subst h
    simp only [Nat.add_zero] at h4 h5 ⊢
    simp only [pairsOf, h1, if_true, List.mem_append]
    left
    have := pairsAt_mem (b := b) (l := l) (i := k) l 0 j y h2 h3 (by simpa using h4) (by simpa using h5)
    simpa using this
  | z :: r, k, i + 1, x, j, y, h, h1, h2, h3, h4, h5 => by
    simp only [List.getElem?_cons_succ] at h
    have e : k + (i + 1) = k + 1 + i := by omega
    rw [e] at h4 h5 ⊢
    have := pairsOf_mem (b := b) (l := l) r (k + 1) i x j y h h1 h2 h3 h4 h5
    simp only [pairsOf]
    split
    · exact List.mem_append_right _ this
    · exact this
theorem opers_get {N : Nat} {K : List Nat} {all : List Oper} : ∀ {r : List Oper} {lr : List LOper}, OpersRel P all N K r lr → r.length = lr.length ∧ ∀ (i : Nat) (lo : LOper), lr[i]? = some lo → ∃ (o : Oper) (m : Bool), r[i]? = some o ∧ compOp P m o = some lo.op ∧ lopOk lo.op = true ∧ lo.dst = o.dst ∧ (∀ d, o.dst = some d → d < N) ∧ (∀ d, o.dst = some d → (lo.loc = false ↔ d ∈ K)) ∧
    (match o.guard with | none => lo.guard = none | some (j, w) => ∃ d, (all[j]?).bind (·.dst) = some d ∧ lo.guard = some (d, w))
  | _, _, .nil => ⟨rfl, fun i lo h => by simp at h⟩
  | _, _, .cons (o := o) m hop hok hd hN hK hg t => by
    obtain ⟨h1, h2⟩ := opers_get t
    refine ⟨by simp [h1], fun i lo h => ?_⟩
    cases i with
    | zero => simp only [List.getElem?_cons_zero, Option.some.injEq] at h; subst h; exact ⟨o, m, rfl, hop, hok, hd, hN, hK, hg⟩
    | succ i => simpa using h2 i lo (by simpa using h)
/-- How many are not done. -/
def left (listed : Array Bool) : Nat → Nat
  | 0 => 0
  | n + 1 => left listed n + if listed.getD n false then 0 else 1
theorem left_zero {listed : Array Bool} : ∀ {n : Nat}, left listed n = 0 → ∀ i, i < n → Lst listed i
  | 0, _, i, h => by omega
  | n + 1, h, i, hi => by
    simp only [left] at h
    by_cases e : i = n
    · subst e
      unfold Lst
      cases hx : listed.getD i false with
      | true => rfl
      | false => simp [hx] at h
    · exact left_zero (listed := listed) (n := n) (by omega) i (by omega)
theorem left_set {listed : Array Bool} {i : Nat} (hsz : i < listed.size) (hn : ¬ Lst listed i) : ∀ (n : Nat), left (listed.setIfInBounds i true) n = if i < n then left listed n - 1 else left listed n
  | 0 => by simp [left]
  | n + 1 => by
    simp only [left]
    rw [left_set hsz hn n]
    by_cases hin : i = n
    · subst hin
      have h1 : (listed.setIfInBounds i true).getD i false = true := by simp [hsz]
      have h2 : listed.getD i false = false := by simpa [Lst] using hn
      simp only [h1, h2]; simp
    · rw [getD_set_ne false hin]
      generalize (if listed.getD n false = true then 0 else 1) = q
      by_cases h : i < n
      · have : 1 ≤ left listed n := by
          rcases Nat.eq_zero_or_pos (left listed n) with h0 | h0
          · exact absurd (left_zero h0 i h) hn
          · exact h0
        rw [if_pos h, if_pos (by omega)]; omega
      · rw [if_neg h, if_neg (by omega)]
section
variable {E : Evs} {N : Nat} {K : List Nat} {ops : Array Oper} {l : List LOper} {e : Nat → Env} {s : Nat → St} (hR : Run P E fl N K ops l e s)
variable {ι0 : Inj} {w0 : World} {D : List Deferred}
 include hR
theorem any_ok (hV : SoundV P E) (hFk : FOk F) (hfl0 : fl ≤ (s 0).k) (hed : edgesBack ops.toList = true) {Q : Exit → Act → World → Prop}
    (hQ : ∀ a' w' ι', Post fl ι0 (s 0) w0 ι' (s l.length) w' → SRel P ι' (s l.length) w' → ERel ι' (e l.length) a'.tmps → EInv K (e l.length) → a'.tmps.size = N → a'.defers = D → Q .normal a' w') :
    ∀ (fuel : Nat) (listed : Array Bool) (ι : Inj) (a : Act) (w : World) (c : Nat), left listed ops.size ≤ fuel → listed.size = ops.size → Closed ops listed → Inv P fl N l e s ι0 w0 D listed ι a w c → wpAnyIn F 0 P .any ops Q fuel listed a w := by
  have fin : ∀ (listed : Array Bool) (ι : Inj) (a : Act) (w : World) (c : Nat), (∀ i, i < ops.size → Lst listed i) → Inv P fl N l e s ι0 w0 D listed ι a w c → Q .normal a w := by
    intro listed ι a w c hall hI
    have hlen := hR.len
    have hlast : ∀ (j : Nat) (lj : LOper), c ≤ j → j < l.length → l[j]? = some lj → isChange lj.op = false := by
      intro j lj h1 h2 hj
      cases hx : isChange lj.op with
      | false => rfl
      | true => have := (hI.pos j lj hj hx).1 (hall j (by omega)); omega
    have hcn := hI.cle
    obtain ⟨d, hd⟩ : ∃ d, l.length = c + d := ⟨l.length - c, by omega⟩
    obtain ⟨h1, h2, h3⟩ := hI.fwd hR d (by omega) (fun j lj a b hj => hlast j lj a (by omega) hj)
    rw [← hd] at h1 h2 h3
    have hk := hR.k (i := 0) (j := c) (by omega) (by omega)
    refine hQ a w ι ⟨hI.post.k, hI.post.old, hI.post.rng, hI.post.size, hI.post.frame, ?_, ?_, ?_, ?_, h2, hI.post.same⟩ h1 ?_ (hR.einv _ (Nat.le_refl _)) hI.size hI.defers
    · intro b hb hn
      have := hI.post.unreal b hb hn
      have h4 := h3 b (by omega)
      exact ⟨h4.1.trans this.1, h4.2.trans this.2⟩
    · intro b hb; exact (h3 b (by omega)).1.trans (hI.post.flr b hb)
    · intro b o ho
      have hb : b < (s 0).k := Classical.byContradiction fun h => by
        have := (hI.wf 0 (by omega) b (by omega)).2; rw [this] at ho; cases ho
      exact (h3 b (by omega)).2.trans (hI.post.imm b o ho)
    · intro b hb hn; exact (h3 b (by omega)).1.trans (hI.post.dead b hb hn)
    · intro t v hv
      exact hI.slots l.length t (Nat.le_refl _) (fun j lj hj _ => ⟨fun _ => (List.getElem?_eq_some_iff.1 hj).1, fun h => hall j (by omega)⟩) v hv
  intro fuel
  induction fuel with
  | zero =>
    intro listed ι a w c hlf hsz hcl hI
    have hall := left_zero (listed := listed) (n := ops.size) (by omega)
    refine ⟨?_, fin listed ι a w c hall hI⟩
    cases hr : Region.ready .any ops listed with
    | nil => rfl
    | cons i r =>
      exfalso
      have hi : i ∈ Region.ready .any ops listed := by rw [hr]; simp
      obtain ⟨h1, o, h2, _⟩ := mem_ready.1 hi
      have hlt : i < ops.size := (Array.getElem?_eq_some_iff.1 h2).1
      have h3 := hall i hlt
      unfold Lst at h3
      have : i < listed.size := by omega
      simp only [Array.getD_eq_getD_getElem?, this, Array.getElem?_eq_getElem, Option.getD_some] at h1 h3
      rw [h1] at h3; cases h3
  | succ fuel ih =>
    intro listed ι a w c hlf hsz hcl hI
    refine ⟨fun hr => fin listed ι a w c (ready_nil hsz hed hr) hI, fun i hi => ?_⟩
    obtain ⟨h1, o, h2, _⟩ := mem_ready.1 hi
    have hlt : i < ops.size := (Array.getElem?_eq_some_iff.1 h2).1
    have hl : l[i]? = some (l[i]'(by rw [hR.len]; exact hlt)) := by simp
    refine step_any hR hI hcl hl hi hsz hV hFk hfl0 fun a' w' ι' c' hI' => ?_
    refine ih _ ι' a' w' c' ?_ (by simpa using hsz) (hcl.step hi) hI'
    rw [left_set (by omega) (not_listed hR hI hcl hl hi hsz), if_pos hlt]; omega
end
theorem unord_of {b : List Nat} {i j : Nat} (h1 : i < j → ¬ (b.getD j 0).testBit i = true) (h2 : j < i → ¬ (b.getD i 0).testBit j = true) (hne : i ≠ j) : unord b i j = true := by
  unfold unord
  split
  · rename_i h; simpa using h1 h
  · simpa using h2 (by omega)
/-- A region whose order is open. -/
theorem draw_region {C : Cfg} {E : Evs} (hV : SoundV P E) (hKm : KMono E) (hq : ∀ x y, C.eqt x y = true → x = y) (hFk : FOk F) (hmx : P.follows .mixedOrders = true) {id : Nat} {ops : Array Oper} {N : Nat} {K : List Nat} {l : List LOper}
    (hrel : OpersRel P ops.toList N K ops.toList l) (hd : drawOk ops.toList (befs ops.toList) l = true) {Q : Exit → Act → World → Prop}
    {T T' : Tmps} {s s' : St} {ι : Inj} {a : Act} {w : World} {x : Xit} (hT : keysIn T K) (hE : TRel ι T a.tmps) (ha : a.tmps.size = N) (hS : SRel P ι s w)
    (h : eReg C E fl l T s (pairsOf (befs ops.toList) l l 0) = some (x, T', s')) (hF : Fresh ι s s'.k) (hfl : fl ≤ s.k)
    (hQ : ∀ a' w' ι', x = .normal → Post fl ι s w ι' s' w' → SRel P ι' s' w' → TRel ι' T' a'.tmps → keysIn T' K → a'.tmps.size = N → a'.defers = a.defers → Q .normal a' w') :
    (Code.region id ops true).wpIn F 0 P Q a w := by
  have hrun : ∃ en tr, eOpsD E fl l ⟨[], T⟩ s = some (en, s', tr) ∧ pairsOk C tr (pairsOf (befs ops.toList) l l 0) = true ∧ x = .normal ∧ T' = en.T := by
    generalize pairsOf (befs ops.toList) l l 0 = ps at h
    cases ps with
    | nil =>
      simp only [eReg] at h
      unfold eRegion at h
      split at h
      · rename_i en sn hen
        simp only [Option.some.injEq, Prod.mk.injEq] at h; obtain ⟨rfl, rfl, rfl⟩ := h
        obtain ⟨tr, ht⟩ := eOpsD_of hen
        exact ⟨en, tr, ht, rfl, rfl, rfl⟩
      · cases h
    | cons p ps =>
      simp only [eReg] at h
      unfold eRegionD at h
      split at h
      · rename_i en sn tr hen
        split at h
        · rename_i hp
          simp only [Option.some.injEq, Prod.mk.injEq] at h; obtain ⟨rfl, rfl, rfl⟩ := h
          exact ⟨en, tr, hen, hp, rfl, rfl⟩
        · cases h
      · cases h
  obtain ⟨en, tr, hD, hp, rfl, rfl⟩ := hrun
  obtain ⟨e, st, g1, g2, g3, g4, g5, g6⟩ := run_of _ _ _ _ _ _ hD
  obtain ⟨hlen, hget⟩ := opers_get hrel
  simp only [drawOk, Bool.and_eq_true] at hd
  have hfree := fun j hj => allLt_iff (allLt_iff hd.2 j hj)
  have hlen' : l.length = ops.size := by rw [← hlen]; simp
  have hrl : ∀ (i : Nat) (lo : LOper), l[i]? = some lo → ∃ (o : Oper) (m : Bool), ops[i]? = some o ∧ compOp P m o = some lo.op ∧ lopOk lo.op = true ∧ lo.dst = o.dst ∧ (∀ d, o.dst = some d → d < N) ∧ (∀ d, o.dst = some d → (lo.loc = false ↔ d ∈ K)) ∧
    (match o.guard with | none => lo.guard = none | some (j, w) => ∃ d, (ops.toList[j]?).bind (·.dst) = some d ∧ lo.guard = some (d, w)) := fun i lo hl => by
    obtain ⟨o, m, h1, h2⟩ := hget i lo hl
    exact ⟨o, m, by simpa using h1, h2⟩
  have heinv : ∀ i, i ≤ l.length → EInv K (e i) := by
    intro i
    induction i with
    | zero => intro _; rw [g1]; exact ⟨hT, fun i v h => by simp [Tget] at h⟩
    | succ i ih =>
      intro hi
      have hl : l[i]? = some l[i] := by simp
      obtain ⟨v, hv, _⟩ := eOper_inv (g5 i _ hl).1
      obtain ⟨o, m, _, _, _, hdst, _, hK, _⟩ := hrl i _ hl
      rw [hv]
      cases hdx : (l[i]).dst with
      | none => exact ih (by omega)
      | some dd => exact (look_put (ih (by omega)) (hK dd (by rw [← hdst]; exact hdx)) v).2
  have hR : Run P E fl N K ops l e st := by
    refine ⟨hlen', fun i lo hl => (g5 i lo hl).1, hrl, heinv, ?_, ?_, hKm⟩
    · intro i j x y hx hy hij hno
      have := hfree j (List.getElem?_eq_some_iff.1 hy).1 i hij
      unfold pairFree at this
      rw [hx, hy] at this
      have hun : unord (befs ops.toList) i j = true := unord_of (fun _ => hno) (fun h => by omega) (by omega)
      simp only [hun, Bool.not_true, Bool.false_or, Bool.and_eq_true, Bool.not_eq_true'] at this
      exact ⟨this.1.1.1.1, this.1.1.1.2, this.1.1.2, this.1.2, this.2⟩
    · intro i j x y hx hy hld hch hne h1 h2 key hk
      have hm := pairsOf_mem (b := befs ops.toList) (l := l) l 0 i x j y hx hld hy hch (by rw [Nat.zero_add]; exact unord_of h1 h2 hne) (by omega)
      rw [Nat.zero_add] at hm
      have := pairsOk_spec hp _ hm
      unfold pairOk at this
      have t1 := (g5 i x hx).2
      have t2 := (g5 j y hy).2
      have t3 : ∃ k, tr[j + 1]? = some (st (j + 1), k) := by
        have hjl := (List.getElem?_eq_some_iff.1 hy).1
        by_cases hj : j + 1 < l.length
        · exact ⟨_, (g5 (j + 1) l[j + 1] (by simp)).2⟩
        · have : j + 1 = l.length := by omega
          rw [this, g6, g4]; exact ⟨_, rfl⟩
      obtain ⟨k3, t3⟩ := t3
      simp only [t1, hk, t2, t3, Bool.and_eq_true] at this
      exact ⟨(hq _ _ this.1).symm, (hq _ _ this.2).symm⟩
  have hkn := fun i hi => hR.k (i := 0) (j := i) (by omega) hi
  have hst0 : ∀ (i : Nat) (k' : Bool), Lst (Array.replicate ops.size false) i → False := by
    intro i _ h
    unfold Lst at h
    rw [Array.getD_eq_getD_getElem?, Array.getElem?_replicate] at h
    split at h <;> cases h
  refine wpIn_region_any hmx (any_ok hR (D := a.defers) (ι0 := ι) (w0 := { w with drawn := w.drawn + 1 }) hV hFk (by rw [g2]; exact hfl) hd.1 ?_ ops.size _ ι a _ 0 ?_ (by simp) (fun j o _ hj => (hst0 j true hj).elim) ?_)
  · intro a' w' ι' p1 p2 p3 p4 p5 p6
    rw [g4] at p1 p2; rw [g2] at p1; rw [g3] at p3 p4
    refine hQ a' w' ι' rfl (p1.heap0 rfl ⟨rfl, rfl, rfl⟩) p2 ?_ p4.1 p5 p6
    intro t v hv
    refine p3 t v ?_
    simp only [Env.look]
    cases hL : Tget en.L t with
    | none => exact hv
    | some u => exact absurd (p4.1 t v hv) (p4.2 t u hL)
  · have : ∀ n, left (Array.replicate ops.size false) n ≤ n := by
      intro n
      induction n with
      | zero => simp [left]
      | succ n ih => simp only [left]; split <;> omega
    exact this _
  · have hwf : LWF (st 0) := by rw [g2]; exact hF.wf
    refine ⟨by omega, fun j lo hj hc => ⟨fun h => (hst0 j true h).elim, fun h => by omega⟩, by rw [g2]; exact hS.heap rfl, fun i hi => ?_, fun j _ _ h => (hst0 j true h).elim, fun j hj _ b h1 h2 => ?_, fun j hj => by omega, ?_, ?_, ha, rfl⟩
    · have : i = 0 := by omega
      subst this; exact hwf
    · refine hF.io b ?_ ?_
      · have := hkn j (by omega); rw [g2] at this; omega
      · have := hR.k (i := j + 1) (j := l.length) (by omega) (by omega); rw [g4] at this; omega
    · refine ⟨?_, fun _ _ => rfl, ?_, Nat.le_refl _, fun _ _ _ => rfl, fun _ _ _ => ⟨rfl, rfl⟩, fun _ _ => rfl, fun _ _ h => h, fun _ _ h => h, ?_, rfl, rfl, rfl⟩
      · exact hkn l.length (Nat.le_refl _)
      · intro b R h1 h2 hb
        have h2' : b < (st l.length).k := h2
        rw [g4] at h2'
        rw [g2] at h1
        rw [hF.io b h1 h2'] at hb; cases hb
      · intro b hb
        refine hwf b ?_
        have := hkn l.length (Nat.le_refl _)
        have hb' : (st l.length).k ≤ b := hb
        omega
    · intro p t hp hw v hv
      have key : ∀ q, q ≤ p → (e q).look t = (e 0).look t := by
        intro q
        induction q with
        | zero => intro _; rfl
        | succ q ih =>
          intro hqp
          rw [← ih (by omega)]
          have hlq : l[q]? = some l[q] := by simp
          obtain ⟨v2, hv2, _⟩ := eOper_inv (g5 q _ hlq).1
          obtain ⟨o, m, _, _, _, hdst, _, hK, _⟩ := hrl q _ hlq
          rw [hv2]
          cases hdx : (l[q]).dst with
          | none => rfl
          | some dd =>
            rw [(look_put (heinv q (by omega)) (hK dd (by rw [← hdst]; exact hdx)) v2).1, if_neg]
            rintro rfl
            exact (hst0 q true ((hw q _ hlq hdx).2 (by omega))).elim
      rw [key p (Nat.le_refl _), g1] at hv
      exact hE t v (by simpa [Env.look, Tget] using hv)
/-- A region in the order of its text. -/
theorem text_region {C : Cfg} {E : Evs} (hV : SoundV P E) (hKm : KMono E) (hFk : FOk F) {id : Nat} {ops : Array Oper} {N : Nat} {K : List Nat} {l : List LOper}
    (hrel : OpersRel P ops.toList N K ops.toList l) {Q : Exit → Act → World → Prop}
    {T T' : Tmps} {s s' : St} {ι : Inj} {a : Act} {w : World} {x : Xit} (hT : keysIn T K) (hE : TRel ι T a.tmps) (ha : a.tmps.size = N) (hS : SRel P ι s w)
    (h : eReg C E fl l T s [] = some (x, T', s')) (hF : Fresh ι s s'.k) (hfl : fl ≤ s.k)
    (hQ : ∀ a' w' ι', x = .normal → Post fl ι s w ι' s' w' → SRel P ι' s' w' → TRel ι' T' a'.tmps → keysIn T' K → a'.tmps.size = N → a'.defers = a.defers → Q .normal a' w') :
    (Code.region id ops false).wpIn F 0 P Q a w := by
  simp only [eReg] at h
  unfold eRegion at h
  split at h
  · rename_i en sn hen
    simp only [Option.some.injEq, Prod.mk.injEq] at h; obtain ⟨rfl, rfl, rfl⟩ := h
    refine wpIn_region ?_
    rw [List.range_eq_range', show ops.size = ops.toList.length by simp]
    refine text_ops hV hKm hFk ops.toList l 0 hrel (by simp) ⟨[], T⟩ s en sn ι a w ⟨hT, fun i v h => by simp [Tget] at h⟩ hE.env ha hS hen hF hfl ?_
    intro a' w' ι' p1 p2 p3 p4 p5 p6
    refine hQ a' w' ι' rfl p1 p2 ?_ p4.1 p5 p6
    intro t v hv
    refine p3 t v ?_
    simp only [Env.look]
    cases hL : Tget en.L t with
    | none => exact hv
    | some u => exact absurd (p4.1 t v hv) (p4.2 t u hL)
  · cases h
end Go.Ev
