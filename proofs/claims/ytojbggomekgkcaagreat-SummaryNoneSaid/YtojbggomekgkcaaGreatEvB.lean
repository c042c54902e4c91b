import Derived.Test.YtojbggomekgkcaaGreatEvA
import Derived.Laws.StructEq
import Derived.Laws.BytesString
import Derived.MapKept
import Derived.Carry
/- An evaluator of the program's functions, and that it is sound: part of the proof. -/
set_option linter.unusedVariables false
set_option linter.unusedSimpArgs false
/- The tables; the operations that touch no memory. -/
namespace Go.Ev
variable {P : Program} {w : World}

theorem info_of {t : TypeId} {i : TypeInfo} (h : P.types[t]? = some i) : P.info? t = some i := by
  obtain ⟨hlt, _⟩ := Array.getElem?_eq_some_iff.1 h
  simp [Tables.info?, hlt, ← h]
theorem under_eq {t : TypeId} {d : TypeDesc} (h : under P.toTables t = some d) : P.underlying t = some d := by
  unfold under at h
  cases hi : P.types[t]? with
  | none => simp [hi] at h
  | some i =>
    simp only [hi] at h
    unfold Program.underlying
    rw [info_of hi]
    cases hd : i.desc with
    | named n u =>
      simp only [hd] at h
      cases hj : P.types[u]? with
      | none => simp [hj] at h
      | some j =>
        simp only [hj, Option.some.injEq] at h
        obtain ⟨d0, _⟩ := i
        simp only at hd; subst hd
        simp [info_of hj, h]
    | _ =>
      simp only [hd, Option.some.injEq] at h
      obtain ⟨d0, _⟩ := i
      simp only at hd; subst hd; subst h
      rfl
theorem under_run {t : TypeId} {d : TypeDesc} (h : under P.toTables t = some d) (w : World) : (underlying t).run P w = .ok d w := run_underlying (under_eq h) w
theorem info_run {t : TypeId} {i : TypeInfo} (h : P.types[t]? = some i) (w : World) : (typeInfo t).run P w = .ok i w := by
  simp [typeInfo, info_of h]
theorem tsize_run {t : TypeId} {n : Nat} (h : tsize P.toTables t = some n) (w : World) : (sizeOf t).run P w = .ok n w := by
  unfold tsize at h
  cases hi : P.types[t]? with
  | none => simp [hi] at h
  | some i => simp [hi] at h; simp [sizeOf, info_run hi, h]
theorem tbytes_run {t : TypeId} {n : Nat} (h : tbytes P.toTables t = some n) (w : World) : ∃ i, (typeInfo t).run P w = .ok i w ∧ i.bytes = n := by
  unfold tbytes at h
  cases hi : P.types[t]? with
  | none => simp [hi] at h
  | some i => simp [hi] at h; exact ⟨i, info_run hi w, h⟩
theorem tzero_run {t : TypeId} {z : List Value} (h : tzero P.toTables t = some z) (w : World) : ∃ v, (zeroValue t).run P w = .ok v w ∧ v.cells = z.toArray := by
  unfold tzero at h
  cases hi : P.types[t]? with
  | none => simp [hi] at h
  | some i =>
    simp only [hi] at h
    cases hz : i.zero with
    | none => simp [hz] at h
    | some v => simp [hz] at h; exact ⟨v, by simp [zeroValue, info_run hi, hz], by rw [← h]⟩
theorem tagg_run {t : TypeId} {a : Option Nat} (h : tagg P.toTables t = some a) (w : World) :
    (isAgg t).run P w = .ok a.isSome w ∧ ∀ n, a = some n → (sizeOf t).run P w = .ok n w := by
  unfold tagg at h
  cases hu : under P.toTables t with
  | none => simp [hu] at h
  | some d =>
    simp only [hu] at h
    cases d <;> simp only [Option.some.injEq, Option.map_eq_some_iff] at h <;>
      first
        | (obtain ⟨n, hn, rfl⟩ := h
           exact ⟨by simp [isAgg, under_run hu], fun m hm => by injection hm with hm; subst hm; exact tsize_run hn w⟩)
        | (subst h; exact ⟨by simp [isAgg, under_run hu], fun m hm => by cases hm⟩)

/-! ### One operation -/
def OpOK (P : Program) (fl : Nat) (ι : Inj) (s : St) (w : World) (v : Option Value) (s' : St) (r : Result Next) : Prop :=
  ∃ w' ι', Post fl ι s w ι' s' w' ∧ SRel P ι' s' w' ∧
    match v with
    | some v => ∃ v', r = .ok (.value v') w' ∧ VRel ι' v v'
    | none => r = .ok .skip w'
/-- An operation on values alone: what it gives, in whatever world. -/
def Gives (P : Program) (ι : Inj) (w : World) (x : Sem Value) (v : Value) : Prop := ∃ v', x.run P w = .ok v' w ∧ VRel ι v v'
theorem OpOK.of_gives {fl : Nat} {ι : Inj} {s : St} {v : Value} {x : Sem Value} (hF : Fresh ι s s.k) (hS : SRel P ι s w) (h : Gives P ι w x v) :
    OpOK P fl ι s w (some v) s ((x >>= fun a => pure (Next.value a)).run P w) := by
  obtain ⟨v', h1, h2⟩ := h
  exact ⟨w, ι, Post.refl hF, hS, v', by simp [h1], h2⟩

section pure_ops
variable {ι : Inj}
theorem VRel.int_inv {k : IntKind} {n : Int} {v' : Value} (h : VRel ι (.int k n) v') : v' = .int k n := by cases h; rfl
theorem VRel.str_inv {b : ByteArray} {v' : Value} (h : VRel ι (.string b) v') : v' = .string b := by cases h; rfl
theorem VRel.bool_inv {b : Bool} {v' : Value} (h : VRel ι (.bool b) v') : v' = .bool b := by cases h; rfl
theorem VRel.ptr_inv {p : Addr} {v' : Value} (h : VRel ι (.pointer (some p)) v') : ∃ R, ι p.block = some R ∧ p.spot = none ∧ v' = .pointer (some ⟨R.r, p.off + R.d, none⟩) := by
  cases h; exact ⟨_, ‹_›, rfl, rfl⟩
theorem toList_of (b : ByteArray) : b.toList = b.data.toList := by
  have key : ∀ (n i : Nat) (r : List UInt8), b.size - i = n → ByteArray.toList.loop b i r = r.reverse ++ b.data.toList.drop i := by
    intro n
    induction n with
    | zero =>
      intro i r h
      rw [ByteArray.toList.loop, if_neg (by omega), List.drop_eq_nil_of_le (by
        have : b.data.toList.length = b.size := rfl
        omega)]
      simp
    | succ n ih =>
      intro i r h
      have hlt : i < b.size := by omega
      rw [ByteArray.toList.loop, if_pos hlt, ih (i + 1) _ (by omega)]
      have hl : i < b.data.toList.length := hlt
      rw [List.drop_eq_getElem_cons hl]
      simp only [List.reverse_cons, List.append_assoc, List.cons_append, List.nil_append]
      congr 2
      have hd : i < b.data.size := hlt
      simp [ByteArray.get!, Array.getElem!_eq_getD, Array.getD]
      rw [dif_pos hlt]
  have := key b.size 0 [] (by omega)
  simpa [ByteArray.toList] using this
theorem bytesLess_eq : ∀ (x y : List UInt8), Op.bytesLess x y = bytesLess x y
  | [], [] => rfl
  | [], _ :: _ => rfl
  | _ :: _, [] => rfl
  | a :: x, b :: y => by simp [Op.bytesLess, bytesLess, bytesLess_eq x y]
theorem wrapI_eq (k : IntKind) (n : Int) : wrapI k n = k.wrap n := by
  unfold wrapI
  cases k <;> simp only
  · split
    · simp only [IntKind.wrap, IntKind.bits, IntKind.signed]; simp; omega
    · rfl
  · split
    · simp only [IntKind.wrap, IntKind.bits, IntKind.signed]; simp; omega
    · rfl
theorem strOp_run {op : BinOp} {a b : ByteArray} {v : Value} (h : strOp op a b = some v) (w : World) : (Op.stringOp op a b).run P w = .ok v w ∧ constOk v = true := by
  unfold strOp at h
  unfold Op.stringOp
  simp only [toList_of, bytesLess_eq]
  cases op
  case add =>
    simp only at h ⊢
    split at h
    · rename_i hle
      simp only [Option.some.injEq] at h; subst h
      have hmx : IntKind.i64.max = 9223372036854775807 := by decide
      have h1 : a.size = a.data.toList.length := rfl
      have h2 : b.size = b.data.toList.length := rfl
      rw [if_neg (by rw [hmx, h1, h2]; omega)]
      simp only [Sem.run_pure]
      refine ⟨?_, rfl⟩
      congr 2
      try (apply ByteArray.ext; simp)
    · cases h
  all_goals first
    | (simp only [Option.some.injEq] at h; subst h; simp [constOk]; done)
    | (cases h; done)
theorem intOp_run {op : BinOp} {k : IntKind} {a b : Int} {v : Value} (h : intOp op k a b = some v) (hs : op ≠ .shl ∧ op ≠ .shr) (t : TypeId) (w : World) :
    (Go.binOp op t (.int k a) (.int k b)).run P w = .ok v w ∧ constOk v = true := by
  unfold intOp at h
  cases op <;> simp only [Option.some.injEq] at h <;> first
    | (exact absurd rfl hs.1)
    | (exact absurd rfl hs.2)
    | (cases h; done)
    | (subst h; simp [Go.binOp, Op.intArith, Op.intBits, Op.intCmp, wrapI_eq, constOk]; done)
    | (split at h
       · cases h
       · rename_i hy
         simp only [Option.some.injEq] at h; subst h
         simp [Go.binOp, Op.intDiv, hy, wrapI_eq, constOk])
theorem shift_run {op : BinOp} {k y : IntKind} {a b : Int} {v : Value} (h : shiftOp op k a b = some v) (hs : op = .shl ∨ op = .shr) (t : TypeId) (w : World) :
    (Go.binOp op t (.int k a) (.int y b)).run P w = .ok v w ∧ constOk v = true := by
  unfold shiftOp at h
  split at h
  · cases h
  · rename_i hb
    rcases hs with rfl | rfl <;> simp only [Option.some.injEq] at h <;> subst h <;> simp [Go.binOp, Op.shift, hb, wrapI_eq, constOk]
theorem unOp_run {op : UnOp} {x : Value} {v x' : Value} (h : unOp op x = some v) (hx : VRel ι x x') (w : World) : Gives P ι w (Op.unary op x') v := by
  unfold unOp at h
  split at h
  · cases hx; simp only [Option.some.injEq] at h; subst h; exact ⟨_, by simp [Op.unary], .bool _⟩
  · cases hx; simp only [Option.some.injEq] at h; subst h; exact ⟨_, by simp [Op.unary, Op.intArith, wrapI_eq], .int _ _⟩
  · cases hx
    have := (intOp_run (P := P) h (by simp) 0 w)
    refine ⟨v, ?_, VRel.const ι v this.2⟩
    have h1 := this.1
    simpa [Op.unary, Go.binOp, Op.intBits] using h1
  · cases h
end pure_ops
end Go.Ev
/- Equality. -/
namespace Go.Ev
variable {P : Program} {w : World} {ι : Inj}

theorem live_block {s : St} (hS : SRel P ι s w) {b : Nat} (h : liveCells s b = true) {R : Real} (hR : ι b = some R) :
    ∃ rc e, w.heap[R.r]? = some (.cells rc e (0, 0)) ∧ ∃ o, s.hm.get b = some o := by
  unfold liveCells at h
  cases hb : s.hm.get b with
  | none => simp [hb] at h
  | some o =>
    cases o with
    | map es => simp [hb] at h
    | loop => simp [hb] at h
    | cells c =>
      obtain ⟨rc, e, fz, h1, _, _, _, h6⟩ := hS.hm b _ R hb hR
      have := h6 rfl; subst this
      exact ⟨rc, e, h1, _, rfl⟩
theorem eqLeaf_vals {kd : Nat} {a b : Value} {r : Bool} (h : eqLeaf kd a b = some r) {a' b' : Value} (ha : VRel ι a a') (hb : VRel ι b b') : a' = a ∧ b' = b := by
  unfold eqLeaf at h
  split at h
  · cases ha; cases hb; exact ⟨rfl, rfl⟩
  · cases ha; cases hb; exact ⟨rfl, rfl⟩
  · cases ha; cases hb; exact ⟨rfl, rfl⟩
  · cases h
theorem beq_bytes (a b : ByteArray) : (a == b) = (a.data.toList == b.data.toList) := by rw [beq_toListBytes, toList_of, toList_of]
theorem eqLeaf_run {t kd : Nat} (hk : leafK P.toTables t = some kd) {a b : Value} {r : Bool} (h : eqLeaf kd a b = some r) (d : Nat) (w : World) :
    (Op.equalIn (d + 1) t a b).run P w = .ok r w := by
  unfold leafK at hk
  cases hu : under P.toTables t with
  | none => simp [hu] at hk
  | some dsc =>
    simp only [hu] at hk
    unfold eqLeaf at h
    cases dsc <;> simp only [Option.some.injEq] at hk <;> first
      | (cases hk; done)
      | skip
    all_goals
      subst hk
      split at h <;> first
        | (simp only [Option.some.injEq] at h; subst h; simp [Op.equalIn, under_run hu, beq_bytes]; done)
        | (split at h
           · rename_i e; subst e; simp only [Option.some.injEq] at h; subst h; simp [Op.equalIn, under_run hu]
           · cases h)
        | (cases h; done)
        | (simp at *; done)
theorem leafK_part {t kd : Nat} (hk : leafK P.toTables t = some kd) {xs : Array Value} {i : Nat} {v : Value} (hv : xs.toList[i]? = some v) (w : World) : (part t xs i).run P w = .ok v w := by
  have hx : xs[i]? = some v := by simpa using hv
  unfold leafK at hk
  cases hu : under P.toTables t with
  | none => simp [hu] at hk
  | some dsc =>
    simp only [hu] at hk
    cases dsc <;> simp only [Option.some.injEq] at hk <;> first
      | (cases hk; done)
      | (simp [part, isAgg, under_run hu, hx])
theorem eqFlat_vals : ∀ {ks : List Nat} {a b : List Value} {r : Bool}, eqFlat ks a b = some r → ∀ {a' b' : List Value}, VRels ι a a' → VRels ι b b' → eqFlat ks a' b' = some r
  | [], [], [], _, h, _, _, .nil, .nil => h
  | k :: ks, x :: a, y :: b, r, h, _, _, .cons hx ha, .cons hy hb => by
    simp only [eqFlat] at h ⊢
    cases he : eqLeaf k x y with
    | none => simp [he] at h
    | some q =>
      obtain ⟨e1, e2⟩ := eqLeaf_vals he hx hy
      rw [e1, e2, he]
      cases q
      · simpa [he] using h
      · simp only [he] at h; exact eqFlat_vals h ha hb
  | [], [], _ :: _, _, h, _, _, _, _ => by simp [eqFlat] at h
  | [], _ :: _, _, _, h, _, _, _, _ => by simp [eqFlat] at h
  | _ :: _, [], _, _, h, _, _, _, _ => by simp [eqFlat] at h
  | _ :: _, _ :: _, [], _, h, _, _, _, _ => by simp [eqFlat] at h
theorem eqFields_run (d : Nat) (xs ys : Array Value) (w : World) : ∀ (fs : List Field) (i : Nat) (ks : List Nat) (r : Bool), leafsF P.toTables i fs = some ks →
    eqFlat ks (xs.toList.drop i) (ys.toList.drop i) = some r → (Op.eqFields (d + 1) xs ys fs).run P w = .ok r w
  | [], i, ks, r, h1, h2 => by
    simp only [leafsF, Option.some.injEq] at h1; subst h1
    cases hx : xs.toList.drop i with
    | nil =>
      cases hy : ys.toList.drop i with
      | nil => simp [hx, hy, eqFlat] at h2; simp [Op.eqFields, h2]
      | cons => simp [hx, hy, eqFlat] at h2
    | cons => simp [hx, eqFlat] at h2
  | f :: fs, i, ks, r, h1, h2 => by
    simp only [leafsF] at h1
    cases hk : leafK P.toTables f.type with
    | none => simp [hk] at h1
    | some k =>
      cases hr : leafsF P.toTables (i + 1) fs with
      | none => simp [hk, hr] at h1
      | some l =>
        simp only [hk, hr] at h1
        split at h1
        · rename_i hn
          simp only [Option.some.injEq] at h1; subst h1
          cases hx : xs.toList.drop i with
          | nil => simp [hx, eqFlat] at h2
          | cons x xt =>
            cases hy : ys.toList.drop i with
            | nil => simp [hx, hy, eqFlat] at h2
            | cons y yt =>
              simp only [hx, hy, eqFlat] at h2
              have ex : xs.toList[i]? = some x := by
                have := congrArg (·[0]?) hx; simpa using this
              have ey : ys.toList[i]? = some y := by
                have := congrArg (·[0]?) hy; simpa using this
              have et : xs.toList.drop (i + 1) = xt := by rw [← List.drop_drop, hx]; rfl
              have eu : ys.toList.drop (i + 1) = yt := by rw [← List.drop_drop, hy]; rfl
              simp only [Op.eqFields]
              rw [if_pos hn.1]
              simp only [Sem.run_bind, hn.2, leafK_part hk ex, leafK_part hk ey, Result.andThen_ok]
              cases he : eqLeaf k x y with
              | none => simp [he] at h2
              | some q =>
                rw [eqLeaf_run hk he d w]
                simp only [Result.andThen_ok]
                cases q
                · simp [he] at h2; subst h2; simp
                · simp only [he] at h2
                  simp only [Bool.not_true, Bool.false_eq_true, if_false]
                  exact eqFields_run d xs ys w fs (i + 1) l r hr (by rw [et, eu]; exact h2)
        · cases h1
/-- Arrays of one-cell elements. -/
theorem eqArr_run (d e : Nat) (k : Nat) (hk : leafK P.toTables e = some k) (xs ys : Array Value) (w : World) : ∀ (n i : Nat) (r : Bool),
    eqFlat (List.replicate n k) (xs.toList.drop i) (ys.toList.drop i) = some r →
    (forIn (m := Sem) (List.range' i n) ((none, ()) : Option Bool × Unit) (fun j (_ : Option Bool × Unit) => do
        let a ← part e xs (j * 1)
        let b ← part e ys (j * 1)
        let q ← Op.equalIn (d + 1) e a b
        if (!q) = true then pure (ForInStep.done ((some false, ()) : Option Bool × Unit)) else pure (ForInStep.yield ((none, ()) : Option Bool × Unit)))).run P w = .ok ((if r then none else some false), ()) w
  | 0, i, r, h => by
    cases hx : xs.toList.drop i with
    | nil =>
      cases hy : ys.toList.drop i with
      | nil => simp [hx, hy, eqFlat] at h; subst h; simp
      | cons => simp [hx, hy, eqFlat] at h
    | cons => simp [hx, eqFlat] at h
  | n + 1, i, r, h2 => by
    cases hx : xs.toList.drop i with
    | nil => simp [hx, eqFlat, List.replicate] at h2
    | cons x xt =>
      cases hy : ys.toList.drop i with
      | nil => simp [hx, hy, eqFlat, List.replicate] at h2
      | cons y yt =>
        simp only [hx, hy, eqFlat, List.replicate] at h2
        have ex : xs.toList[i]? = some x := by
          have := congrArg (·[0]?) hx; simpa using this
        have ey : ys.toList[i]? = some y := by
          have := congrArg (·[0]?) hy; simpa using this
        have et : xs.toList.drop (i + 1) = xt := by rw [← List.drop_drop, hx]; rfl
        have eu : ys.toList.drop (i + 1) = yt := by rw [← List.drop_drop, hy]; rfl
        rw [List.range'_succ]
        simp only [List.forIn_cons, Sem.run_bind, Nat.mul_one]
        rw [leafK_part hk ex]
        simp only [Result.andThen_ok, leafK_part hk ey]
        cases he : eqLeaf k x y with
        | none => simp [he] at h2
        | some q =>
          rw [eqLeaf_run hk he d w]
          simp only [Result.andThen_ok]
          cases q
          · simp [he] at h2; subst h2; simp
          · simp only [he] at h2
            simp only [Bool.not_true, Bool.false_eq_true, if_false, Sem.run_pure, Result.andThen_ok]
            have := eqArr_run d e k hk xs ys w n (i + 1) r (by rw [et, eu]; exact h2)
            simp only [Nat.mul_one] at this
            exact this
end Go.Ev
/- Two operands. -/
namespace Go.Ev
variable {P : Program} {w : World} {ι : Inj}

structure EqR (P : Program) (w : World) (t : TypeId) (x y : Value) (r : Bool) : Prop where
  eq : (Op.equal t x y).run P w = .ok r w
  gd : ∀ (op : BinOp) ox oy, (eqGuard op t ox oy x y).run P w = .ok () w
  be : Go.binOp .eql t x y = (Op.equal t x y >>= fun b => pure (.bool b))
  bn : Go.binOp .neq t x y = (Op.equal t x y >>= fun b => pure (.bool (!b)))
theorem equal_of {t : TypeId} {x y : Value} {r : Bool} (h : (Op.equalIn (9999 + 1) t x y).run P w = .ok r w) : (Op.equal t x y).run P w = .ok r w := h
theorem equal_of' {t : TypeId} {x y : Value} {r : Bool} (h : ∀ d, (Op.equalIn (d + 1) t x y).run P w = .ok r w) : (Op.equal t x y).run P w = .ok r w := h 9999
theorem gd_ptr (t : TypeId) (a : Option Addr) (y : Value) (op : BinOp) (ox oy : Operand) : (eqGuard op t ox oy (.pointer a) y).run P w = .ok () w := by cases op <;> simp [eqGuard]
theorem gd_bool (t : TypeId) (a : Bool) (y : Value) (op : BinOp) (ox oy : Operand) : (eqGuard op t ox oy (.bool a) y).run P w = .ok () w := by cases op <;> simp [eqGuard]
theorem gd_slice (t : TypeId) (a : Option Addr) (l c : Nat) (y : Value) (op : BinOp) (ox oy : Operand) : (eqGuard op t ox oy (.slice a l c) y).run P w = .ok () w := by cases op <;> simp [eqGuard]
theorem gd_map (t : TypeId) (a : Option Nat) (y : Value) (op : BinOp) (ox oy : Operand) : (eqGuard op t ox oy (.map a) y).run P w = .ok () w := by cases op <;> simp [eqGuard]
theorem gd_nilf (t : TypeId) (y : Value) (op : BinOp) (ox oy : Operand) : (eqGuard op t ox oy .nilFunc y).run P w = .ok () w := by cases op <;> simp [eqGuard]
theorem gd_func (t : TypeId) (f : Fn) (a c : Array Value) (y : Value) (op : BinOp) (ox oy : Operand) : (eqGuard op t ox oy (.func f a c) y).run P w = .ok () w := by cases op <;> simp [eqGuard]
theorem gd_int (t : TypeId) (k : IntKind) (n : Int) (y : Value) (op : BinOp) (ox oy : Operand) : (eqGuard op t ox oy (.int k n) y).run P w = .ok () w := by cases op <;> simp [eqGuard]
theorem gd_str (t : TypeId) (n : ByteArray) (y : Value) (op : BinOp) (ox oy : Operand) : (eqGuard op t ox oy (.string n) y).run P w = .ok () w := by cases op <;> simp [eqGuard]

theorem eq_ptr {s : St} (hS : SRel P ι s w) {t e n : Nat} (hu : under P.toTables t = some (.pointer e)) (he : tsize P.toTables e = some (n + 1)) {x y : Value} {r : Bool} (h : eqPtr s x y = some r) {x' y' : Value} (hx : VRel ι x x') (hy : VRel ι y y') : EqR P w t x' y' r := by
  have hun := under_run (P := P) hu
  have hsz := tsize_run (P := P) he
  unfold eqPtr at h
  split at h
  · simp only [Option.some.injEq] at h; subst h
    cases hx
    cases hy with
    | ptrNil => exact ⟨equal_of' (fun d => by simp [Op.equalIn, hun]), gd_ptr t _ _, rfl, rfl⟩
    | ptr hb => exact ⟨equal_of' (fun d => by simp [Op.equalIn, hun]), gd_ptr t _ _, rfl, rfl⟩
  · simp only [Option.some.injEq] at h; subst h
    cases hx
    cases hy
    exact ⟨equal_of' (fun d => by simp [Op.equalIn, hun]), gd_ptr t _ _, rfl, rfl⟩
  · rename_i a b
    split at h
    · rename_i hl
      simp only [Option.some.injEq] at h
      obtain ⟨Ra, hRa, hsa, rfl⟩ := hx.ptr_inv
      obtain ⟨Rb, hRb, hsb, rfl⟩ := hy.ptr_inv
      obtain ⟨ca, ea, hba, oa, hma⟩ := live_block hS hl.1 hRa
      obtain ⟨cb, eb, hbb, ob, hmb⟩ := live_block hS hl.2 hRb
      refine ⟨equal_of' (fun d => ?_), gd_ptr t _ _, rfl, rfl⟩
      have hsame : (sameAddr ⟨Ra.r, a.off + Ra.d, none⟩ ⟨Rb.r, b.off + Rb.d, none⟩).run P w = .ok r w := by
        by_cases e : (⟨Ra.r, a.off + Ra.d, none⟩ : Addr) = ⟨Rb.r, b.off + Rb.d, none⟩
        · rw [e, run_sameAddr_same]
          simp only [Addr.mk.injEq, and_true] at e
          have hbl : a.block = b.block := hS.inj a.block b.block Ra Rb (by rw [hma]; simp) (.inl (by rw [hmb]; simp)) hRa hRb e.1
          have : Ra = Rb := by rw [hbl, hRb] at hRa; injection hRa with hRa; exact hRa.symm
          subst this
          have ho : a.off = b.off := by omega
          rw [← h]; simp [hbl, ho]
        · rw [run_sameAddr_other w e hba hbb]
          rw [← h]
          by_cases hbl : a.block = b.block
          · have : Ra = Rb := by rw [hbl, hRb] at hRa; injection hRa with hRa; exact hRa.symm
            subst this
            have ho : a.off ≠ b.off := fun x => e (by rw [x])
            simp [hbl, ho]
          · simp [hbl]
      simp [Op.equalIn, hun, hsz, hsame]
    · cases h
  · cases h
theorem eq_slice {t e : Nat} (hu : under P.toTables t = some (.slice e)) {x y : Value} {r : Bool} (h : eqSl x y = some r) {x' y' : Value} (hx : VRel ι x x') (hy : VRel ι y y') : EqR P w t x' y' r := by
  have hun := under_run (P := P) hu
  unfold eqSl at h
  split at h
  · simp only [Option.some.injEq] at h; subst h
    cases hx
    cases hy with
    | sliceNil => exact ⟨equal_of' (fun d => by simp [Op.equalIn, hun]), gd_slice t _ _ _ _, rfl, rfl⟩
    | slice hb => exact ⟨equal_of' (fun d => by simp [Op.equalIn, hun]), gd_slice t _ _ _ _, rfl, rfl⟩
  · simp only [Option.some.injEq] at h; subst h
    cases hx
    cases hy
    exact ⟨equal_of' (fun d => by simp [Op.equalIn, hun]), gd_slice t _ _ _ _, rfl, rfl⟩
  · cases h
theorem eq_map {t e f : Nat} (hu : under P.toTables t = some (.map e f)) {x y : Value} {r : Bool} (h : eqMap x y = some r) {x' y' : Value} (hx : VRel ι x x') (hy : VRel ι y y') : EqR P w t x' y' r := by
  have hun := under_run (P := P) hu
  unfold eqMap at h
  split at h
  · simp only [Option.some.injEq] at h; subst h
    cases hx
    cases hy with
    | mapNil => exact ⟨equal_of' (fun d => by simp [Op.equalIn, hun]), gd_map t _ _, rfl, rfl⟩
    | map hb => exact ⟨equal_of' (fun d => by simp [Op.equalIn, hun]), gd_map t _ _, rfl, rfl⟩
  · simp only [Option.some.injEq] at h; subst h
    cases hx
    cases hy
    exact ⟨equal_of' (fun d => by simp [Op.equalIn, hun]), gd_map t _ _, rfl, rfl⟩
  · cases h
theorem eq_func {t : Nat} {a b : Array TypeId} {c : Bool} (hu : under P.toTables t = some (.func a b c)) {x y : Value} {r : Bool} (h : eqFn x y = some r) {x' y' : Value} (hx : VRel ι x x') (hy : VRel ι y y') : EqR P w t x' y' r := by
  have hun := under_run (P := P) hu
  unfold eqFn at h
  split at h
  · simp only [Option.some.injEq] at h; subst h
    cases hx; cases hy
    exact ⟨equal_of' (fun d => by simp [Op.equalIn, hun]), gd_nilf t _, rfl, rfl⟩
  · simp only [Option.some.injEq] at h; subst h
    cases hx
    cases hy <;> exact ⟨equal_of' (fun d => by simp [Op.equalIn, hun]), gd_nilf t _, rfl, rfl⟩
  · simp only [Option.some.injEq] at h; subst h
    cases hy
    cases hx <;> exact ⟨equal_of' (fun d => by simp [Op.equalIn, hun]), gd_func t _ _ _ _, rfl, rfl⟩
  · cases h
theorem eq_bool {t : Nat} (hu : under P.toTables t = some .bool) {x y : Value} {r : Bool} (h : eqLeaf 0 x y = some r) {x' y' : Value} (hx : VRel ι x x') (hy : VRel ι y y') : EqR P w t x' y' r := by
  obtain ⟨e1, e2⟩ := eqLeaf_vals h hx hy
  subst e1; subst e2
  have hk : leafK P.toTables t = some 0 := by simp [leafK, hu]
  have hr := fun d => eqLeaf_run hk h d w
  unfold eqLeaf at h
  split at h
  all_goals first
    | exact ⟨equal_of' hr, gd_bool t _ _, rfl, rfl⟩
    | (exfalso; omega)
    | cases h
theorem eq_struct {t : Nat} {fs : Array Field} {ks : List Nat} (hu : under P.toTables t = some (.struct fs)) (hl : leafsF P.toTables 0 fs.toList = some ks) (h1 : P.stoodInHeld t = false) (h2 : P.eqGuardType P.depth t = false)
    {x y : Value} {r : Bool} (h : eqAgg ks x y = some r) {x' y' : Value} (hx : VRel ι x x') (hy : VRel ι y y') : EqR P w t x' y' r := by
  unfold eqAgg at h
  split at h
  · cases hx with
    | agg hxs =>
      cases hy with
      | agg hys =>
        have hfo : P.fieldsOf t = fs := by simp [Program.fieldsOf, under_eq hu]
        refine ⟨?_, fun op ox oy => run_eqGuard_agg w op t ox oy _ _ h2, rfl, rfl⟩
        have key : ∀ d, (Op.equalIn (d + 1 + 1) t (.agg _) (.agg _)).run P w = .ok r w := fun d => by
          rw [run_equalIn_struct w (d + 1) t _ _ (by rw [hfo]; exact under_eq hu) h1, hfo]
          exact eqFields_run d _ _ w fs.toList 0 ks r hl (by simpa using eqFlat_vals h hxs hys)
        exact key 9998
  · cases h
theorem eq_array {t n e kd : Nat} (hu : under P.toTables t = some (.array n e)) (hl : leafK P.toTables e = some kd) (hz : tsize P.toTables e = some 1) (h2 : P.eqGuardType P.depth t = false)
    {x y : Value} {r : Bool} (h : eqAgg (List.replicate n kd) x y = some r) {x' y' : Value} (hx : VRel ι x x') (hy : VRel ι y y') : EqR P w t x' y' r := by
  unfold eqAgg at h
  split at h
  · cases hx with
    | agg hxs =>
      cases hy with
      | agg hys =>
        refine ⟨?_, fun op ox oy => run_eqGuard_agg w op t ox oy _ _ h2, rfl, rfl⟩
        rename_i xs ys
        suffices key : ∀ d, (Op.equalIn (d + 1 + 1) t (.agg xs) (.agg ys)).run P w = .ok r w from key 9998
        intro d
        have := eqArr_run (P := P) d e kd hl xs ys w n 0 r (by simpa using eqFlat_vals h hxs hys)
        obtain ⟨D, hD⟩ : ∃ D, D = d + 1 := ⟨_, rfl⟩
        rw [← hD] at this ⊢
        simp only [Op.equalIn, Sem.run_bind, under_run hu, Result.andThen_ok, tsize_run hz]
        rw [Std.Legacy.Range.forIn_eq_forIn_range']
        simp only [Std.Legacy.Range.size, Nat.sub_zero, Nat.add_sub_cancel, Nat.div_one]
        rw [this]
        cases r <;> simp
  · cases h
theorem eqOp_run {s : St} (hS : SRel P ι s w) {t : TypeId} {x y : Value} {r : Bool} (h : eqOp s (eqk P t) x y = some r) {x' y' : Value} (hx : VRel ι x x') (hy : VRel ι y y') : EqR P w t x' y' r := by
  unfold eqk at h
  split at h
  · rename_i hu; exact eq_bool hu h hx hy
  · rename_i e hu
    split at h
    · rename_i n he; exact eq_ptr hS hu he h hx hy
    · simp [eqOp] at h
  · rename_i e hu; exact eq_slice hu h hx hy
  · rename_i a b hu; exact eq_map hu h hx hy
  · rename_i a b c hu; exact eq_func hu h hx hy
  · rename_i fs hu
    split at h
    · rename_i ks hl
      split at h
      · rename_i hc; exact eq_struct hu hl hc.1 hc.2 h hx hy
      · simp [eqOp] at h
    · simp [eqOp] at h
  · rename_i n e hu
    split at h
    · rename_i kd hl hz
      split at h
      · rename_i hc; exact eq_array hu hl hz hc h hx hy
      · simp [eqOp] at h
    · simp [eqOp] at h
  · simp [eqOp] at h
end Go.Ev
/- Numbers of a slice expression, parts, indexes, fields. -/
namespace Go.Ev
variable {P : Program} {w : World} {ι : Inj}

theorem bin_gives {s : St} (hS : SRel P ι s w) {op : BinOp} {t : TypeId} {x y v : Value} (h : binOp s op (eqk P t) x y = some v) {x' y' : Value} (hx : VRel ι x x') (hy : VRel ι y y') (ox oy : Operand) :
    Gives P ι w (do eqGuard op t ox oy x' y'; Go.binOp op t x' y') v := by
  unfold binOp at h
  split at h
  · cases hx; rename_i yk b; cases hy
    have := shift_run (P := P) (y := yk) h (.inl rfl) t w
    exact ⟨v, by simp [gd_int, this.1], VRel.const ι v this.2⟩
  · cases hx; rename_i yk b; cases hy
    have := shift_run (P := P) (y := yk) h (.inr rfl) t w
    exact ⟨v, by simp [gd_int, this.1], VRel.const ι v this.2⟩
  · rename_i h1 h2
    split at h
    · rename_i e; subst e
      cases hx; cases hy
      have hs : op ≠ .shl ∧ op ≠ .shr := ⟨fun e => (h1 e).elim, fun e => (h2 e).elim⟩
      have := intOp_run (P := P) h hs t w
      exact ⟨v, by simp [gd_int, this.1], VRel.const ι v this.2⟩
    · cases h
  · cases hx; cases hy
    have := strOp_run (P := P) h w
    refine ⟨v, ?_, VRel.const ι v this.2⟩
    simp only [Sem.run_bind, gd_str, Result.andThen_ok]
    have e : ∀ a b, Go.binOp op t (.string a) (.string b) = Op.stringOp op a b := fun a b => by cases op <;> rfl
    rw [e]; exact this.1
  · simp only [Option.map_eq_some_iff] at h
    obtain ⟨r, hr, rfl⟩ := h
    obtain ⟨h1, h2, h3, h4⟩ := eqOp_run hS hr hx hy
    exact ⟨_, by simp [h2, h3, h1], .bool _⟩
  · simp only [Option.map_eq_some_iff] at h
    obtain ⟨r, hr, rfl⟩ := h
    obtain ⟨h1, h2, h3, h4⟩ := eqOp_run hS hr hx hy
    exact ⟨_, by simp [h2, h4, h1], .bool _⟩
  · cases h

theorem asNat_run {n : Nat} {v : Value} {i : Nat} (h : asNat n v = some i) {v' : Value} (hv : VRel ι v v') (c : BoundsCode) (w : World) : (Instr.sliceBound v' n c).run P w = .ok i w ∧ i ≤ n := by
  unfold asNat at h
  split at h
  · cases hv
    split at h
    · rename_i hb
      simp only [Option.some.injEq] at h; subst h
      exact ⟨by simp [Instr.sliceBound, asIntOf, hb], by omega⟩
    · cases h
  · cases h
/-- The capacities: what is known, and what is there. -/
theorem bounds_run {len cap cap' : Nat} {lo hi mx lo' hi' mx' : Option Value} {l h m : Nat} (hb : bounds len cap lo hi mx = some (l, h, m)) (hc : cap ≤ cap') (hl : len ≤ cap)
    (h1 : ORelV ι lo lo') (h2 : ORelV ι hi hi') (h3 : ORelV ι mx mx') (sl : Bool) (w : World) (hex : mx = none → hi ≠ none → True) :
    ∃ m', (Instr.sliceBounds sl len cap' lo' hi' mx').run P w = .ok (l, h, m') w ∧ m ≤ m' ∧ (mx.isSome = true → m' = m) ∧ (mx = none → m = cap ∧ m' = cap') ∧ l ≤ h ∧ h ≤ m := by
  have up : ∀ {v v' : Value} {i : Nat}, asNat cap v = some i → VRel ι v v' → ∀ c, (Instr.sliceBound v' cap' c).run P w = .ok i w ∧ i ≤ cap := by
    intro v v' i hv hr c
    unfold asNat at hv
    split at hv
    · cases hr
      split at hv
      · rename_i hbb
        simp only [Option.some.injEq] at hv; subst hv
        exact ⟨by simp [Instr.sliceBound, asIntOf, hbb.1, show _ ≤ (cap' : Int) from Int.le_trans hbb.2 (by omega)], by omega⟩
      · cases hv
    · cases hv
  unfold bounds at hb
  cases h3 with
  | none =>
    simp only [Option.isSome_none, Bool.false_eq_true, if_false] at hb
    cases h2 with
    | none =>
      simp only at hb
      cases h1 with
      | none =>
        simp only [Option.some.injEq, Prod.mk.injEq] at hb
        obtain ⟨rfl, rfl, rfl⟩ := hb
        exact ⟨cap', by simp [Instr.sliceBounds], hc, by simp, by simp, by omega, hl⟩
      | some hv =>
        rename_i v v'
        simp only at hb
        cases ha : asNat len v with
        | none => simp [ha] at hb
        | some i =>
          simp only [ha, Option.some.injEq, Prod.mk.injEq] at hb
          obtain ⟨rfl, rfl, rfl⟩ := hb
          have := asNat_run (P := P) ha hv .sliceB w
          exact ⟨cap', by simp [Instr.sliceBounds, this.1], hc, by simp, by simp, this.2, hl⟩
    | some hv2 =>
      rename_i u u'
      simp only at hb
      cases hu : asNat cap u with
      | none => simp [hu] at hb
      | some j =>
        simp only [hu] at hb
        have hj := up hu hv2 (if sl then .sliceAcap else .sliceAlen)
        cases h1 with
        | none =>
          simp only [Option.some.injEq, Prod.mk.injEq] at hb
          obtain ⟨rfl, rfl, rfl⟩ := hb
          exact ⟨cap', by simp [Instr.sliceBounds, hj.1], hc, by simp, by simp, by omega, hj.2⟩
        | some hv =>
          rename_i v v'
          simp only at hb
          cases ha : asNat j v with
          | none => simp [ha] at hb
          | some i =>
            simp only [ha, Option.some.injEq, Prod.mk.injEq] at hb
            obtain ⟨rfl, rfl, rfl⟩ := hb
            have := asNat_run (P := P) ha hv .sliceB w
            exact ⟨cap', by simp [Instr.sliceBounds, hj.1, this.1], hc, by simp, by simp, this.2, hj.2⟩
  | some hv3 =>
    rename_i z z'
    simp only [Option.isSome_some, if_true] at hb
    cases hz : asNat cap z with
    | none => simp [hz] at hb
    | some k =>
      simp only [hz] at hb
      have hk := up hz hv3 (if sl then .slice3Acap else .slice3Alen)
      cases h2 with
      | none => simp at hb
      | some hv2 =>
        rename_i u u'
        simp only at hb
        cases hu : asNat k u with
        | none => simp [hu] at hb
        | some j =>
          simp only [hu] at hb
          have hj := asNat_run (P := P) hu hv2 .slice3B w
          cases h1 with
          | none =>
            simp only [Option.some.injEq, Prod.mk.injEq] at hb
            obtain ⟨e1, e2, e3⟩ := hb
            have h2 := hk.2; have h3 := hj.2
            exact ⟨m, by rw [← e1, ← e2, ← e3]; simp [Instr.sliceBounds, hk.1, hj.1], by omega, by simp, by simp, by omega, by omega⟩
          | some hv =>
            rename_i v v'
            simp only at hb
            cases ha : asNat j v with
            | none => simp [ha] at hb
            | some i =>
              simp only [ha, Option.some.injEq, Prod.mk.injEq] at hb
              obtain ⟨e1, e2, e3⟩ := hb
              have := asNat_run (P := P) ha hv .slice3C w
              have h2 := hk.2; have h3 := hj.2; have h4 := this.2
              exact ⟨m, by rw [← e1, ← e2, ← e3]; simp [Instr.sliceBounds, hk.1, hj.1, this.1], by omega, by simp, by simp, by omega, by omega⟩
/-- A part of an aggregate. -/
theorem part_run {t : TypeId} {a : Option Nat} (ht : tagg P.toTables t = some a) {c c' : Array Value} (hc : VRels ι c.toList c'.toList) {off : Nat} {v : Value} (hv : ofCells a ((c.toList.drop off).take (a.getD 1)) = some v) (w : World) :
    Gives P ι w (part t c' off) v := by
  obtain ⟨h1, h2⟩ := tagg_run ht w
  have hd := (hc.drop off).take (a.getD 1)
  cases a with
  | none =>
    simp only [ofCells, Option.getD_none] at hv hd
    split at hv
    · rename_i x hx
      simp only [Option.some.injEq] at hv; subst hv
      rw [hx] at hd
      obtain ⟨v', e, hr⟩ := hd.singleton
      have e2 : c'[off]? = some v' := by
        have := congrArg (·[0]?) e
        simpa using this
      exact ⟨v', by simp [part, h1, e2], hr⟩
    · cases hv
  | some n =>
    simp only [ofCells, Option.getD_some, Option.some.injEq] at hv hd
    subst hv
    refine ⟨.agg (c'.extract off (off + n)), by simp [part, h1, h2 n rfl], .agg ?_⟩
    simp only [Array.toList_extract, List.extract_eq_take_drop]
    simpa using hd
theorem index_in {k : IntKind} {i : Int} {n : Nat} (h : 0 ≤ i ∧ i < n) : ¬ (i < 0) := by omega
end Go.Ev
/- The operations that touch memory. -/
namespace Go.Ev
variable {P : Program} {w : World} {ι : Inj} {s : St} {fl : Nat}

theorem VRel.cellsR {v v' : Value} (h : VRel ι v v') : VRels ι (cellsL v) v'.cells.toList := by
  cases h with
  | agg h => exact h
  | bool b => exact .one (.bool b)
  | int k n => exact .one (.int k n)
  | string s => exact .one (.string s)
  | ptrNil => exact .one .ptrNil
  | ptr h => exact .one (.ptr h)
  | sliceNil l c h => exact .one (.sliceNil l c h)
  | slice h ho hc hl hn => exact .one (.slice h ho hc hl hn)
  | mapNil => exact .one .mapNil
  | map h => exact .one (.map h)
  | func h1 h2 => exact .one (.func h1 h2)
  | yield h => exact .one (.yield h)
  | nilFunc => exact .one .nilFunc
  | nilIface => exact .one .nilIface
  | iface t h => exact .one (.iface t h)
  | tuple h => exact .one (.tuple h)
theorem VRel.scalarR {v v' : Value} (h : VRel ι v v') : scalar v' = scalar v := by cases h <;> rfl
theorem VRels.scalarR : ∀ {l l' : List Value}, VRels ι l l' → l.all scalar = true → l'.all scalar = true
  | _, _, .nil, _ => rfl
  | _, _, .cons h t, hs => by
    simp only [List.all_cons, Bool.and_eq_true] at hs ⊢
    exact ⟨by rw [h.scalarR]; exact hs.1, t.scalarR hs.2⟩
theorem newRow_run (e : TypeId) (c : Array Value) (w : World) : (newRow e c).run P w = .ok ⟨w.heap.size, 0, none⟩ { w with heap := w.heap.push (.cells c e) } := by
  simp [newRow, newObj, Sem.run]
/-- A row made anew. -/
theorem row_new (hS : SRel P ι s w) (hF : Fresh ι s (s.k + 1)) (hfl : fl ≤ s.k) (imm : Bool) (e : TypeId) {c : List Value} {c' : Array Value} (hc : VRels ι c (c'.toList.take c.length)) (hle : c.length ≤ c'.size) :
    let ι' : Inj := fun b => if b = s.k then some ⟨w.heap.size, 0, c'.size⟩ else ι b
    let w' : World := { w with heap := w.heap.push (.cells c' e) }
    Post fl ι s w ι' (s.add imm (.cells c)) w' ∧ SRel P ι' (s.add imm (.cells c)) w' ∧ ι' s.k = some ⟨w.heap.size, 0, c'.size⟩ := by
  intro ι' w'
  have := new_rel (P := P) imm (.cells c) (.cells c' e) ⟨w.heap.size, 0, c'.size⟩ hS hF rfl (fun ι1 hx => ⟨c', e, (0, 0), rfl, rfl, by simpa using (hc.mono hx).c, by simpa using hle, fun _ => rfl⟩) fl hfl
  exact ⟨this.1, this.2, by simp [ι']⟩
theorem elem_run0 {st : Nat} {y : Value} {n : Nat} {c : List Value} (hS : SRel P ι s w) (h : elemCells s st y n = some c) {y' : Value} (hy : VRel ι y y') :
    ∃ c', (∀ w2 : World, w2.heap = w.heap → (Builtin.firstCells st n y').run P w2 = .ok c' w2) ∧ VRels ι c c'.toList ∧ c.length = n * st := by
  unfold elemCells at h
  split at h
  · rename_i base len cap n
    split at h
    · rename_i hn; subst hn
      simp only [Option.some.injEq] at h; subst h
      refine ⟨#[], fun w2 _ => ?_, .nil, by simp⟩
      cases hy <;> simp [Builtin.firstCells, loadCells, loadCellsFrom]
    · rename_i hn
      split at h
      · rename_i hle
        cases hy with
        | sliceNil => cases h
        | slice hb ho hc hl hsp =>
          obtain ⟨c', h1, h2, h3, h4⟩ := ld_rel hS h hb
          have ho' := ho.resolve_left (by omega)
          refine ⟨c'.toArray, fun w2 hw2 => ?_, by simpa using h1, h3⟩
          simp only [Builtin.firstCells]
          rw [ho']; exact run_loadCells h2 (fun j v hj => by have := h4 j v hj; simpa [World.cell?, hw2] using this)
      · cases h
  · cases h
theorem elem_run {st : Nat} {y : Value} {n : Nat} {c : List Value} (hS : SRel P ι s w) (h : elemCells s st y n = some c) {y' : Value} (hy : VRel ι y y') :
    ∃ c', (Builtin.firstCells st n y').run P w = .ok c' w ∧ VRels ι c c'.toList ∧ c.length = n * st := by
  obtain ⟨c', h1, h2, h3⟩ := elem_run0 (P := P) hS h hy
  exact ⟨c', h1 w rfl, h2, h3⟩
theorem lenV_run {y : Value} {n : Nat} (h : lenV y = some n) {y' : Value} (hy : VRel ι y y') (w : World) : (Builtin.lenOf y').run P w = .ok n w := by
  unfold lenV at h
  split at h
  · simp only [Option.some.injEq] at h; subst h
    cases hy <;> simp [Builtin.lenOf]
  · simp only [Option.some.injEq] at h; subst h
    cases hy; simp only [Builtin.lenOf, Sem.run_pure]; rfl
  · cases h

theorem load_gives {t : TypeId} {a : Option Nat} (ht : tagg P.toTables t = some a) (hS : SRel P ι s w) {v : Option Value} {x : Value} {s' : St} (h : rLoad s a v = some (some x, s')) {v' : Value} (hv : ∀ u, v = some u → VRel ι u v') :
    s' = s ∧ Gives P ι w (Instr.loadAt t v') x := by
  unfold rLoad at h
  split at h
  · rename_i p
    obtain ⟨R, hR, hsp, rfl⟩ := (hv _ rfl).ptr_inv
    obtain ⟨h1, h2⟩ := tagg_run ht w
    cases hl : s.ld p.block p.off (a.getD 1) with
    | none => simp [hl] at h
    | some c =>
      simp only [hl] at h
      obtain ⟨c', g1, g2, g3, g4⟩ := ld_rel hS hl hR
      unfold some1 at h
      cases ho : ofCells a c with
      | none => simp [ho] at h
      | some y =>
        simp only [ho, Option.some.injEq, Prod.mk.injEq] at h
        obtain ⟨rfl, rfl⟩ := h
        refine ⟨rfl, ?_⟩
        cases a with
        | none =>
          simp only [ofCells] at ho
          split at ho
          · simp only [Option.some.injEq] at ho; subst ho
            obtain ⟨z, rfl, hz⟩ := g1.singleton
            refine ⟨z, ?_, hz⟩
            have := g4 0 z rfl
            simp only [Instr.loadAt, Instr.sureAddr, loadVar, Sem.run_bind, Sem.run_pure, Result.andThen_ok, h1]
            simpa using run_load (P := P) (by simpa using this)
          · cases ho
        | some n =>
          simp only [ofCells, Option.some.injEq] at ho; subst ho
          refine ⟨.agg c'.toArray, ?_, .agg (by simpa using g1)⟩
          simp only [Instr.loadAt, Instr.sureAddr, loadVar, Sem.run_bind, Sem.run_pure, Result.andThen_ok, h1]
          simp only [Option.isSome_some, if_true, Sem.run_bind, h2 n rfl, Result.andThen_ok]
          rw [run_loadCells (by simpa using g2) g4]
          simp
  · cases h
theorem store_ok {t n : Nat} (ht : tsize P.toTables t = some n) (hS : SRel P ι s w) {fz : Bool} {a x : Option Value} {v : Option Value} {s' : St} (h : rStore fl s n fz a x = some (v, s')) (hF : Fresh ι s s'.k)
    {a' x' : Value} (ha : ∀ u, a = some u → VRel ι u a') (hx : ∀ u, x = some u → VRel ι u x') :
    v = none ∧ ∃ w', (Instr.storeAt t a' x').run P w = .ok () w' ∧ Post fl ι s w ι s' w' ∧ SRel P ι s' w' := by
  unfold rStore at h
  split at h
  · rename_i p u
    obtain ⟨R, hR, hsp, rfl⟩ := (ha _ rfl).ptr_inv
    have hxr := (hx _ rfl).cellsR
    split at h
    · rename_i hn
      cases hst : s.st fl p.block p.off (cellsL u) with
      | none => simp [hst] at h
      | some s1 =>
        simp only [hst, Option.some.injEq, Prod.mk.injEq] at h
        obtain ⟨rfl, rfl⟩ := h
        have hk1 : s1.k = s.k := by
          unfold St.st at hst
          (repeat' split at hst) <;> first
            | (simp only [Option.some.injEq] at hst; subst hst; rfl)
            | cases hst
        have hk2 : (if fz = true then s1.fz p.block else s1).k = s.k := by
          split
          · unfold St.fz; split <;> exact hk1
          · exact hk1
        rw [hk2] at hF
        obtain ⟨_, w', hr, hp, hs'⟩ := st_rel (P := P) hS hF hst hR hxr hxr.scalarR
        have hfl : fl ≤ p.block := by
          unfold St.st at hst
          (repeat' split at hst) <;> first
            | (rename_i hc; exact hc.1)
            | cases hst
        refine ⟨rfl, w', ?_, ?_⟩
        · have hlen : x'.cells.size = n := by rw [← hn, hxr.length]; simp
          simp only [Instr.storeAt, Instr.sureAddr, storeVar, Sem.run_bind, Sem.run_pure, Result.andThen_ok, tsize_run ht, hlen]
          simpa using hr
        · have hF1 : Fresh ι s1 s1.k := ⟨hp.wf, fun b h1 h2 => by omega⟩
          split
          · have := fz_rel (P := P) hs' hF1 hfl (by rw [hR]; simp)
            exact ⟨hp.trans this.1, this.2⟩
          · exact ⟨hp, hs'⟩
    · cases h
  · cases h

/-! ### Building -/
theorem foldl_splice : ∀ (vs : List Value) (i off : Nat) (a : Array Value), off + i + vs.length ≤ a.size →
    ((vs.zipIdx i).foldl (fun cs (p : Value × Nat) => cs.setIfInBounds (off + p.2) p.1) a).toList = splice a.toList (off + i) vs
  | [], i, off, a, h => by simp [splice_nil]
  | v :: vs, i, off, a, h => by
    simp only [List.length_cons] at h
    simp only [List.zipIdx_cons, List.foldl_cons]
    rw [foldl_splice vs (i + 1) off (a.setIfInBounds (off + i) v) (by simp; omega)]
    rw [← splice_cons a.toList (off + i) v vs (by simp; omega)]
    simp only [Array.toList_setIfInBounds]
    rw [show off + (i + 1) = off + i + 1 by omega]
inductive PartsRel (ι : Inj) (place : Nat → Option (Nat × Nat)) : List (Nat × Nat × Value) → List (Nat × Value) → Prop
  | nil : PartsRel ι place [] []
  | cons {i o n : Nat} {v v' : Value} {l : List (Nat × Nat × Value)} {l' : List (Nat × Value)} (hp : place i = some (o, n)) (hv : VRel ι v v') (t : PartsRel ι place l l') : PartsRel ι place ((o, n, v) :: l) ((i, v') :: l')
theorem fill_run {place : Nat → Option (Nat × Nat)} : ∀ {l : List (Nat × Nat × Value)} {l' : List (Nat × Value)}, PartsRel ι place l l' → ∀ {c : List Value} {c' : Array Value} {r : List Value}, VRels ι c c'.toList → fill c l = some r →
    ∃ r', Instr.fill place c' l' = some r' ∧ VRels ι r r'.toList
  | _, _, .nil, c, c', r, hc, h => by
    simp only [fill, Option.some.injEq] at h; subst h
    exact ⟨c', rfl, hc⟩
  | _, _, .cons (i := i) (o := o) (n := n) (v := v) (v' := v') hp hv t, c, c', r, hc, h => by
    simp only [fill] at h
    split at h
    · rename_i hle
      have hcr := hv.cellsR
      have hl := hcr.length
      have hl2 : v'.cells.size = n := by rw [← hle.1, hl]; simp
      have hcl := hc.length
      have hb : o + v'.cells.size ≤ c'.size := by rw [hl2]; have := hle.2; simp at hcl; omega
      have hs : (Array.foldl (fun cs (p : Value × Nat) => cs.setIfInBounds (o + p.2) p.1) c' v'.cells.zipIdx).toList = splice c'.toList o v'.cells.toList := by
        rw [← Array.foldl_toList]
        have := foldl_splice v'.cells.toList 0 o c' (by simp; omega)
        simp only [Array.toList_zipIdx]
        simpa using this
      have hk := VRels.splice (o := o) hc hcr
      rw [← hs] at hk
      rename_i lr _
      have h' : fill (splice c o (cellsL v)) lr = some r := by unfold splice; rw [hle.1]; exact h
      obtain ⟨r', h1, h2⟩ := fill_run t hk h'
      refine ⟨r', ?_, h2⟩
      simp only [Instr.fill, hp]
      rw [if_neg (by simp; omega)]
      exact h1
    · cases h
theorem parts_rel {e : Env} {a : Act} (hE : ERel ι e a.tmps) (places : Nat → Option (Nat × Nat)) : ∀ {ps : List (Nat × Operand)} {l : List (Nat × Nat × Operand)} {vs : List (Nat × Nat × Value)}, partsOf places ps = some l → partsOk l = true → evParts e l = some vs →
    PartsRel ι places vs (ps.map fun p => (p.1, a.eval p.2))
  | [], l, vs, h1, _, h2 => by
    simp only [partsOf, Option.some.injEq] at h1; subst h1
    simp only [evParts, Option.some.injEq] at h2; subst h2
    exact .nil
  | (i, x) :: ps, l, vs, h1, hok, h2 => by
    simp only [partsOf] at h1
    cases hp : places i with
    | none => simp [hp] at h1
    | some q =>
      obtain ⟨o, n⟩ := q
      simp only [hp] at h1
      cases hr : partsOf places ps with
      | none => simp [hr] at h1
      | some l' =>
        simp only [hr, Option.some.injEq] at h1; subst h1
        simp only [partsOk, List.all_cons, Bool.and_eq_true] at hok
        simp only [evParts] at h2
        cases hv : ev e x with
        | none => simp [hv] at h2
        | some v =>
          cases hvs : evParts e l' with
          | none => simp [hv, hvs] at h2
          | some vs' =>
            simp only [hv, hvs, Option.some.injEq] at h2; subst h2
            exact .cons hp (ev_rel hE hok.1 hv) (parts_rel hE places hr hok.2 hvs)
theorem rep_eq (z : List Value) (n : Nat) (hz : 0 < z.length) : ∀ (m : Nat), m ≤ n → ((Array.range (n * z.length)).map (fun i => z.toArray[i % z.toArray.size]!)).toList.take (m * z.length) = rep z m := by
  intro m
  induction m with
  | zero => intro _; simp [rep]
  | succ m ih =>
    intro h
    have key : ∀ m, rep z (m + 1) = rep z m ++ z := by
      intro m
      induction m with
      | zero => simp [rep]
      | succ m ih2 => show z ++ rep z (m + 1) = (z ++ rep z m) ++ z; rw [ih2, List.append_assoc]
    rw [key, ← ih (by omega)]
    apply List.ext_getElem?
    intro i
    have hmn : m * z.length + z.length ≤ n * z.length := by
      have : (m + 1) * z.length ≤ n * z.length := Nat.mul_le_mul_right _ h
      rw [Nat.add_mul] at this; omega
    simp only [Array.toList_map, Array.toList_range, List.getElem?_take, List.getElem?_map, List.getElem?_range', List.getElem?_append, List.length_take, List.length_map, List.length_range]
    rw [Nat.add_mul, Nat.one_mul]
    by_cases h1 : i < m * z.length
    · rw [if_pos (by omega), if_pos (by omega), if_pos h1]
    · by_cases h2 : i < m * z.length + z.length
      · rw [if_pos h2, if_neg (by omega)]
        rw [List.getElem?_range (by omega)]
        have hm : i % z.length = i - m * z.length := by
          obtain ⟨k, rfl⟩ : ∃ k, i = m * z.length + k := ⟨i - m * z.length, by omega⟩
          rw [Nat.mul_comm, Nat.mul_add_mod, Nat.mod_eq_of_lt (by omega)]; rw [Nat.mul_comm]; omega
        simp only [Option.map_some, List.size_toArray, hm]
        rw [show min (m * z.length) (n * z.length) = m * z.length by omega]
        have hlt : i - m * z.length < z.length := by omega
        simp [hlt]
      · rw [if_neg h2, if_neg (by omega), List.getElem?_eq_none (by omega)]
theorem rep_length (z : List Value) : ∀ n, (rep z n).length = n * z.length
  | 0 => by simp [rep]
  | n + 1 => by rw [rep, List.length_append, rep_length z n, Nat.add_mul]; omega
theorem rep_full (z : List Value) (n : Nat) (hz : 0 < z.length) : ((Array.range (n * z.length)).map (fun i => z.toArray[i % z.toArray.size]!)).toList = rep z n := by
  have := rep_eq z n hz n (Nat.le_refl _)
  rw [List.take_of_length_le (by simp)] at this
  exact this
theorem constsOk_rep {z : List Value} (h : constsOk z = true) : ∀ n, constsOk (rep z n) = true
  | 0 => rfl
  | n + 1 => by
    have app : ∀ (l m : List Value), constsOk l = true → constsOk m = true → constsOk (l ++ m) = true := by
      intro l m
      induction l with
      | nil => intro _ h; exact h
      | cons v l ih => intro h1 h2; simp only [constsOk, List.cons_append, Bool.and_eq_true] at h1 ⊢; exact ⟨h1.1, ih h1.2 h2⟩
    exact app _ _ h (constsOk_rep h n)
end Go.Ev
/- append. -/
namespace Go.Ev
variable {P : Program} {w : World} {ι : Inj} {s : St} {fl : Nat}

theorem growBy_le (need : Nat) : ∀ (r c : Nat), c ≤ 2 * need + 192 → Builtin.growBy need r c ≤ 2 * need + 192
  | 0, c, h => h
  | r + 1, c, h => by
    simp only [Builtin.growBy]
    split
    · exact h
    · exact growBy_le need r _ (by omega)
theorem nextcap_le {need cap : Nat} (h : cap < need) : Builtin.nextslicecap need cap ≤ 2 * need + 192 := by
  unfold Builtin.nextslicecap
  split
  · omega
  · split
    · omega
    · exact growBy_le need 4 cap (by omega)
/-- The rest of append, its first steps done. -/
def appTail (elem sLen n sCap size : Nat) (base : Option Addr) (x y : Value) (zeros : Bool) (appended : Sem (Array Value)) : Sem Value := do
  let need := sLen + n
  if need ≤ sCap then
    let new ← appended
    if let some a := base then storeCells (a.add (sLen * size)) new.toList
    pure (.slice base need sCap)
  else
    if (need : Int) > IntKind.i64.max ∧ (zeros ∨ (← typeInfo elem).bytes = 0) then runtimePanic (.error "growslice: len out of range")
    if Builtin.nextslicecap need sCap * (← typeInfo elem).bytes > 2 ^ 48 then (if zeros then runtimePanic (.error "growslice: len out of range") else do
      if !(← Builtin.mayShare size sLen n base y) then mark .noRoom
      unsupported (.resourceLimit "append: a slice or a string whose bytes no memory bears"))
    let newCap ← choose (.appendCap need sCap elem)
    askRoom (newCap * (← typeInfo elem).bytes)
    let old ← Builtin.firstCells size sLen x
    let new ← appended
    let rest := Builtin.zeroCells (← zeroValue elem).cells (newCap - need)
    pure (.slice (some (← newRow elem (old ++ new ++ rest))) need newCap)
theorem choose_cap (need old elem : Nat) (hn : need < 2 ^ 63) (w : World) : ∃ c, need ≤ c ∧ (choose (.appendCap need old elem)).run P w = .ok c { w with drawn := w.drawn + 1 } := by
  refine ⟨_, ?_, by simp [choose, Sem.run, Question.forced]; rfl⟩
  simp only [Question.cut]; omega
theorem askRoom_run (n : Nat) (w : World) : (askRoom n).run P w = .ok () w := by
  unfold askRoom; split <;> simp [mark, Sem.run]
theorem zeroCells_size (z : Array Value) (n : Nat) : (Builtin.zeroCells z n).size = n * z.size := by simp [Builtin.zeroCells]
theorem SRel.heap {w2 : World} (h : SRel P ι s w) (e : w2.heap = w.heap) : SRel P ι s w2 :=
  ⟨fun b o R a b => by rw [e]; exact h.hm _ o R a b, fun b o R a b => by rw [e]; exact h.hi _ o R a b, h.inj, fun b R a => by rw [e]; exact h.bnd b R a, h.dis⟩
theorem Post.heap0 {w0 w2 : World} {ι' : Inj} {s' : St} (h : Post fl ι s w0 ι' s' w2) (e : w0.heap = w.heap) (e2 : w0.os = w.os ∧ w0.tape = w.tape ∧ w0.output = w.output) : Post fl ι s w ι' s' w2 :=
  ⟨h.k, h.old, fun b R a b c => by rw [← e]; exact h.rng _ R a b c, by rw [← e]; exact h.size, fun r a b => by rw [← e]; exact h.frame r (by rw [e]; exact a) b, h.unreal, h.flr, h.imm, h.dead, h.wf, h.same.1.trans e2.1, h.same.2.1.trans e2.2.1, h.same.2.2.trans e2.2.2⟩
theorem tail_ok {elem st bytes : Nat} {z : List Value} (hsz : tsize P.toTables elem = some st) (hby : tbytes P.toTables elem = some bytes) (hz : tzero P.toTables elem = some z) (hzl : z.length = st) (hst0 : 0 < st)
    (hS : SRel P ι s w) {x : Value} {n : Nat} {new : List Value} {v : Value} {s' : St} (h : appendCells fl s st bytes x n new = some (v, s')) (hF : Fresh ι s s'.k) (hfl : fl ≤ s.k)
    {base : Option Addr} {sLen sCap : Nat} (hx : VRel ι x (.slice base sLen sCap)) {new' : Array Value} (hnew : VRels ι new new'.toList) (hl : new.length = n * st)
    (y : Value) (zeros : Bool) (appended : Sem (Array Value)) (ha : ∀ w2, w2.heap = w.heap → appended.run P w2 = .ok new' w2) :
    ∃ v' w' ι', (appTail elem sLen n sCap st base (.slice base sLen sCap) y zeros appended).run P w = .ok v' w' ∧ Post fl ι s w ι' s' w' ∧ SRel P ι' s' w' ∧ VRel ι' v v' := by
  obtain ⟨i, hi, hib⟩ := tbytes_run (P := P) hby w
  have hir : ∀ w, (typeInfo elem).run P w = .ok i w := by
    intro w2
    unfold tbytes at hby
    cases hq : P.types[elem]? with
    | none => simp [hq] at hby
    | some j =>
      have e := info_run (P := P) hq w
      rw [e] at hi
      injection hi with hi _; subst hi; exact info_run hq w2
  have hbytes : i.bytes < 65536 ∨ True := .inr trivial
  -- growing: a new row
  have grow : ∀ (old : List Value), elemCells s st x sLen = some old → ¬ sLen + n ≤ sCap → sLen + n < 1073741824 → bytes < 65536 → ∃ (c : Nat) (w2 : World) (old' rest : Array Value), sLen + n ≤ c ∧ (w2.heap = w.heap ∧ w2.os = w.os ∧ w2.tape = w.tape ∧ w2.output = w.output) ∧ VRels ι old old'.toList ∧ old.length = sLen * st ∧ rest.size = (c - (sLen + n)) * st ∧
      (appTail elem sLen n sCap st base (.slice base sLen sCap) y zeros appended).run P w = .ok (.slice (some ⟨w2.heap.size, 0, none⟩) (sLen + n) c) { w2 with heap := w2.heap.push (.cells (old' ++ new' ++ rest) elem) } := by
    intro old ho hov hn hb
    obtain ⟨c, hc, hch⟩ := choose_cap (P := P) (sLen + n) sCap elem (by omega) w
    obtain ⟨old', h1, h2, h3⟩ := elem_run (P := P) (w := { w with drawn := w.drawn + 1 }) (hS.heap (w2 := { w with drawn := w.drawn + 1 }) rfl) ho hx
    obtain ⟨zv, h4, h5⟩ := tzero_run (P := P) hz { w with drawn := w.drawn + 1 }
    refine ⟨c, { w with drawn := w.drawn + 1 }, old', Builtin.zeroCells zv.cells (c - (sLen + n)), hc, ⟨rfl, rfl, rfl, rfl⟩, h2, h3, ?_, ?_⟩
    · rw [zeroCells_size, h5]; simp [hzl]
    · have hmx : IntKind.i64.max = 9223372036854775807 := by decide
      have hcap := nextcap_le (need := sLen + n) (cap := sCap) (by omega)
      have hmul : Builtin.nextslicecap (sLen + n) sCap * i.bytes ≤ (2 * (sLen + n) + 192) * 65536 := Nat.mul_le_mul hcap (by omega)
      simp only [appTail]
      rw [if_neg hov]
      simp only [Sem.run_bind, hir, Result.andThen_ok]
      rw [if_neg (by rw [hmx]; omega)]
      simp only [Sem.run_pure, Result.andThen_ok, Sem.run_bind, hir]
      rw [if_neg (by omega)]
      simp only [Sem.run_pure, Result.andThen_ok, Sem.run_bind, hir, hch, askRoom_run, h1, ha { w with drawn := w.drawn + 1 } rfl, h4, newRow_run]
  have hpos : ∀ c0, (new = c0 → c0 = [] → n * st = 0) := fun c0 h1 h2 => by rw [← hl, h1, h2]; rfl
  -- a row made anew, whatever became of the old one
  have anew : ∀ (s0 : St) (old : List Value), elemCells s st x sLen = some old → SRel P ι s0 w → Fresh ι s0 (s0.k + 1) → s0.k = s.k → ¬ sLen + n ≤ sCap → sLen + n < 1073741824 → bytes < 65536 →
      ∃ v' w' ι', (appTail elem sLen n sCap st base (.slice base sLen sCap) y zeros appended).run P w = .ok v' w' ∧ Post fl ι s0 w ι' (s0.new (.cells (old ++ new))) w' ∧ SRel P ι' (s0.new (.cells (old ++ new))) w' ∧ VRel ι' (.slice (some ⟨s.k, 0, some st⟩) (sLen + n) (sLen + n)) v' := by
    intro s0 old ho' hS0 hF0 hk0 hov hb1 hb2
    obtain ⟨c, w2, old', rest, hc', ⟨hw2, hws⟩, h2, h3, h4, hrun⟩ := grow old ho' hov hb1 hb2
    have hnl := hnew.length
    have hol := h2.length
    have hsize : (old' ++ new' ++ rest).size = c * st := by
      simp only [Array.size_append, h4]
      have e1 : old'.size = sLen * st := by rw [← h3, hol]; simp
      have e2 : new'.size = n * st := by rw [← hl, hnl]; simp
      rw [e1, e2, ← Nat.add_mul, ← Nat.add_mul]; congr 1; omega
    have hrel := row_new (P := P) (w := w2) (fl := fl) (hS0.heap hw2) hF0 (by omega) false elem (c := old ++ new) (c' := old' ++ new' ++ rest) (by
      rw [show (old' ++ new' ++ rest).toList.take (old ++ new).length = old'.toList ++ new'.toList by
        simp only [Array.toList_append]; rw [List.take_left']; simp [hol, hnl]]
      exact h2.append hnew) (by simp [hol, hnl])
    obtain ⟨p1, p2, p3⟩ := hrel
    refine ⟨_, _, _, hrun, p1.heap0 hw2 hws, p2, ?_⟩
    have hsp : SpotOk (some st) 0 (sLen + n) c (old' ++ new' ++ rest).size := by
      rw [hsize]
      cases st with
      | zero => omega
      | succ q => show 0 + c * (q + 1) ≤ c * (q + 1); omega
    have hv := VRel.slice (ι := fun b => if b = s0.k then some ⟨w2.heap.size, 0, (old' ++ new' ++ rest).size⟩ else ι b) (b := s0.k) (R := ⟨w2.heap.size, 0, (old' ++ new' ++ rest).size⟩) (o := 0) (o' := 0) (sp := some st) (len := sLen + n) (cap := sLen + n) (cap' := c) p3 (.inr rfl) hc' (Nat.le_refl _) hsp
    rw [← hk0]
    exact hv
  cases hx with
  | sliceNil len cap hlc =>
    simp only [appendCells] at h
    split at h
    · rename_i hle
      simp only [Option.some.injEq, Prod.mk.injEq] at h
      obtain ⟨rfl, rfl⟩ := h
      refine ⟨_, w, ι, ?_, Post.refl hF, hS, .sliceNil (sLen + n) sCap hle⟩
      simp only [appTail]
      rw [if_pos hle]
      simp [ha w rfl]
    · rename_i hle
      split at h
      · rename_i hb
        cases ho : elemCells s st (.slice none sLen sCap) sLen with
        | none => simp [ho] at h
        | some old =>
          simp only [ho, appendNew, Option.some.injEq, Prod.mk.injEq] at h
          obtain ⟨rfl, rfl⟩ := h
          exact anew s old ho hS hF rfl hle hb.1 hb.2.1
      · cases h
  | slice hb hof hc hlc hn =>
    rename_i b o o' sp cap R
    simp only [appendCells] at h
    split at h
    · rename_i hle
      split at h
      · -- nothing is added
        simp only [Option.some.injEq, Prod.mk.injEq] at h
        obtain ⟨rfl, rfl⟩ := h
        have hne : new' = #[] := by
          have := hnew.length
          simp at this
          exact Array.eq_empty_of_size_eq_zero this.symm
        refine ⟨_, w, ι, ?_, Post.refl hF, hS, .slice hb hof hc hle hn⟩
        simp only [appTail]
        rw [if_pos (by omega)]
        simp [ha w rfl, hne, storeCells]
      · rename_i hnn
        cases hst : s.st fl b (o + sLen * st) new with
        | none => simp [hst] at h
        | some s1 =>
          simp only [hst, Option.some.injEq, Prod.mk.injEq] at h
          obtain ⟨rfl, rfl⟩ := h
          have hk1 : s1.k = s.k := by
            unfold St.st at hst
            (repeat' split at hst) <;> first
              | (simp only [Option.some.injEq] at hst; subst hst; rfl)
              | cases hst
          obtain ⟨_, w', hr, hp, hs'⟩ := st_rel (P := P) hS (by rw [hk1] at hF; exact hF) hst hb hnew hnew.scalarR
          have hn0 : 0 < n := by
            by_cases h0 : 0 < n
            · exact h0
            · have : n = 0 := by omega
              rw [this] at hl
              have : new = [] := List.length_eq_zero_iff.1 (by simpa using hl)
              exact absurd this hnn
          have ho' := hof.resolve_left (by omega)
          refine ⟨_, w', ι, ?_, hp, hs', .slice hb hof hc hle hn⟩
          simp only [appTail]
          rw [if_pos (by omega)]
          simp only [Sem.run_bind, ha w rfl, Result.andThen_ok, add_none]
          rw [ho', show o + R.d + sLen * st = o + sLen * st + R.d by omega]
          simp [hr]
    · rename_i hle
      split at h
      · rename_i hbd
        cases ho : elemCells s st (.slice (some ⟨b, o, sp⟩) sLen cap) sLen with
        | none => simp [ho] at h
        | some old =>
          simp only [ho] at h
          cases sp with
          | none => exact absurd hn (by simp [SpotOk])
          | some q =>
            cases q with
            | zero =>
              simp only [appendNew, Option.some.injEq, Prod.mk.injEq] at h
              obtain ⟨rfl, rfl⟩ := h
              have he : cap = sCap := hn
              exact anew s old ho hS hF rfl (by omega) hbd.1 hbd.2.1
            | succ q =>
              simp only [appendNew] at h
              cases hm : s.hm.get b with
              | none => simp [hm] at h
              | some ob =>
                cases ob with
                | map es => simp [hm] at h
                | loop => simp [hm] at h
                | cells c0 =>
                  simp only [hm] at h
                  by_cases hu : fl ≤ b ∧ q + 1 = st
                  case neg => rw [if_neg hu] at h; simp at h
                  rw [if_pos hu] at h
                  obtain ⟨hflb, hus⟩ := hu
                  simp only [Option.some.injEq, Prod.mk.injEq] at h
                  obtain ⟨rfl, rfl⟩ := h
                  have hF0 : Fresh ι s s.k := hF.left (s1 := s) (by simp [St.new, St.del])
                  have hn' : o' + sCap * st ≤ R.n := by rw [← hus]; exact hn
                  by_cases hin : sLen + n ≤ sCap
                  · -- in place
                    obtain ⟨rc, et, fz, g1, g2, g4, g5, g6⟩ := hS.hm b _ R hm hb
                    have hz0 := g6 rfl; subst hz0
                    have hnl := hnew.length
                    have hroom : o' + sLen * st + n * st ≤ R.n := by
                      have : (sLen + n) * st ≤ sCap * st := Nat.mul_le_mul_right _ hin
                      rw [Nat.add_mul] at this; omega
                    have hnl2 : new'.toList.length = n * st := by rw [← hnl, hl]
                    have hrun := run_storeCells (P := P) et R.r (o' + sLen * st) new'.toList 0 w rc g1 (by rw [hnl2, g2]; omega) (hnew.scalarR hbd.2.2)
                    obtain ⟨old', h1, h2, h3⟩ := elem_run (P := P) hS ho (.slice hb hof hc hlc hn)
                    have hlen : (old ++ new).length = sLen * st + n * st := by simp [h3, hl]
                    have hold' : old'.toList = (rc.toList.drop o').take (sLen * st) := by
                      have hld : ∀ j v, ((rc.toList.drop o').take (sLen * st))[j]? = some v → w.cell? ⟨R.r, o' + j, none⟩ = some v := by
                        intro j v hj
                        rw [cell_of g1]
                        have hlt : j < sLen * st := by
                          by_cases hx : j < sLen * st
                          · exact hx
                          · rw [List.getElem?_eq_none (by simp; omega)] at hj; cases hj
                        rw [List.getElem?_take, if_pos hlt, List.getElem?_drop] at hj
                        simpa using hj
                      have := run_loadCells (P := P) (w := w) (b := R.r) (o := o') (n := sLen * st) (cs := (rc.toList.drop o').take (sLen * st)) (by simp; omega) hld
                      simp only [Builtin.firstCells] at h1
                      rw [this] at h1
                      injection h1 with h1 _
                      rw [← h1]
                    have hrm := remap_rel (P := P) (fl := fl) (w := w) (R' := ⟨R.r, o', R.n⟩) hS (by simpa [St.new, St.del] using hF) hm hflb hfl hb rfl (.cells (old ++ new)) (.cells ⟨splice rc.toList (o' + sLen * st + 0) new'.toList⟩ et (0, 0)) (by
                      intro ι1 hx1
                      refine ⟨_, et, (0, 0), rfl, ?_, ?_, ?_, fun _ => rfl⟩
                      · show (splice rc.toList _ _).length = R.n
                        rw [splice_length (by rw [hnl2]; simp; omega)]; simp [g2]
                      · rw [hlen]
                        show CRels ι1 (old ++ new) (((splice rc.toList (o' + sLen * st + 0) new'.toList).drop o').take (sLen * st + n * st))
                        have : ((splice rc.toList (o' + sLen * st + 0) new'.toList).drop o').take (sLen * st + n * st) = old'.toList ++ new'.toList := by
                          rw [hold']
                          have hrl : rc.toList.length = R.n := by simp [g2]
                          apply List.ext_getElem?
                          intro i
                          unfold splice
                          simp only [List.getElem?_take, List.getElem?_drop, List.getElem?_append, List.length_take, List.length_append, List.length_drop, hrl, hnl2]
                          (repeat' split) <;> first
                            | omega
                            | rfl
                            | (congr 1; omega)
                            | (symm; apply List.getElem?_eq_none; omega)
                            | (apply List.getElem?_eq_none; omega)
                        rw [this]
                        exact ((h2.append hnew).mono hx1).c
                      · rw [hlen]; show o' + _ ≤ R.n; omega)
                    obtain ⟨p1, p2⟩ := hrm
                    refine ⟨.slice (some ⟨R.r, o', none⟩) (sLen + n) sCap, _, _, ?_, p1, p2, ?_⟩
                    · simp only [appTail]
                      rw [if_pos hin]
                      simp only [Sem.run_bind, ha w rfl, Result.andThen_ok, add_none]
                      simp only [hrun, Result.andThen_ok, Sem.run_pure]
                    · exact VRel.slice (ι := fun x => if x = s.k then some ⟨R.r, o', R.n⟩ else ι x) (b := s.k) (o := 0) (o' := o') (sp := some st) (len := sLen + n) (cap := sLen + n) (cap' := sCap) (R := ⟨R.r, o', R.n⟩) (by simp) (.inr (by show o' = 0 + o'; omega)) hin (Nat.le_refl _) (by rw [← hus]; exact hn)
                  · obtain ⟨d1, d2⟩ := del_rel (P := P) (fl := fl) hS hF0 hm hflb hb
                    have hFd : Fresh ι (s.del b) ((s.del b).k + 1) := ⟨d1.wf, fun x h1 h2 => hF.io x h1 h2⟩
                    obtain ⟨v', w', ι', q1, q2, q3, q4⟩ := anew (s.del b) old ho d2 hFd rfl hin hbd.1 hbd.2.1
                    exact ⟨v', w', ι', q1, d1.trans q2, q3, q4⟩
      · cases h
end Go.Ev
/- One operation that is no call, logical and real. -/
namespace Go.Ev
variable {P : Program} {w : World} {ι : Inj} {s s' : St} {fl : Nat}

theorem some1_inv {x : Option Value} {v : Option Value} (h : some1 s x = some (v, s')) : s' = s ∧ ∃ u, x = some u ∧ v = some u := by
  unfold some1 at h
  split at h
  · simp only [Option.some.injEq, Prod.mk.injEq] at h; exact ⟨h.2.symm, _, rfl, h.1.symm⟩
  · cases h
theorem lift1_inv {x : Option (Value × St)} {v : Option Value} (h : lift1 x = some (v, s')) : ∃ u, x = some (u, s') ∧ v = some u := by
  unfold lift1 at h
  split at h
  · simp only [Option.some.injEq, Prod.mk.injEq] at h; obtain ⟨rfl, rfl⟩ := h; exact ⟨_, rfl, rfl⟩
  · cases h
/-- The wrapping of 'execOp'. -/
theorem OpOK.val {x : Sem Value} {v : Value} (h : ∃ v' w' ι', x.run P w = .ok v' w' ∧ Post fl ι s w ι' s' w' ∧ SRel P ι' s' w' ∧ VRel ι' v v') : OpOK P fl ι s w (some v) s' ((x >>= fun a => pure (Next.value a)).run P w) := by
  obtain ⟨v', w', ι', h1, h2, h3, h4⟩ := h
  exact ⟨w', ι', h2, h3, v', by simp [h1], h4⟩
theorem OpOK.unit {x : Sem Unit} (h : ∃ w' ι', x.run P w = .ok () w' ∧ Post fl ι s w ι' s' w' ∧ SRel P ι' s' w') : OpOK P fl ι s w none s' ((x >>= fun _ => pure Next.skip).run P w) := by
  obtain ⟨w', ι', h1, h2, h3⟩ := h
  exact ⟨w', ι', h2, h3, by simp [h1]⟩
theorem OpOK.gives {x : Sem Value} {v : Value} (hF : Fresh ι s s.k) (hS : SRel P ι s w) (h : Gives P ι w x v) : OpOK P fl ι s w (some v) s ((x >>= fun a => pure (Next.value a)).run P w) := OpOK.of_gives hF hS h
theorem OpOK.pure1 {v v' : Value} (hF : Fresh ι s s.k) (hS : SRel P ι s w) (h : VRel ι v v') : OpOK P fl ι s w (some v) s ((Pure.pure (Next.value v') : Sem Next).run P w) :=
  ⟨w, ι, Post.refl hF, hS, v', by simp, h⟩
theorem ptr_new {ι' : Inj} {k : Nat} {R : Real} (h : ι' k = some R) (hd : R.d = 0) : VRel ι' (ptrTo k) (.pointer (some ⟨R.r, 0, none⟩)) := by
  have := VRel.ptr (o := 0) h
  rw [hd] at this; exact this
theorem sl_new {ι' : Inj} {k n c : Nat} {R : Real} (h : ι' k = some R) (hd : R.d = 0) (hnc : n ≤ c) : VRel ι' (.slice (some ⟨k, 0, some 0⟩) n c) (.slice (some ⟨R.r, 0, none⟩) n c) :=
  VRel.slice (o := 0) (o' := 0) (sp := some 0) (len := n) (cap := c) (cap' := c) h (.inr (by rw [hd])) (Nat.le_refl _) hnc rfl
theorem places_run : ∀ {fs : Array Field} {pl : List (Nat × Nat)}, placesOf P.toTables fs.toList = some pl → ∀ (w : World),
    (fs.mapM (fun f => do pure (f.offset, ← sizeOf f.type) : Field → Sem (Nat × Nat))).run P w = .ok pl.toArray w := by
  have key : ∀ (fs : List Field) (pl : List (Nat × Nat)), placesOf P.toTables fs = some pl → ∀ (w : World), (fs.mapM (fun f => do pure (f.offset, ← sizeOf f.type) : Field → Sem (Nat × Nat))).run P w = .ok pl w := by
    intro fs
    induction fs with
    | nil => intro pl h w; simp only [placesOf, Option.some.injEq] at h; subst h; simp
    | cons f r ih =>
      intro pl h w
      simp only [placesOf] at h
      cases hs : tsize P.toTables f.type with
      | none => simp [hs] at h
      | some n =>
        cases hr : placesOf P.toTables r with
        | none => simp [hs, hr] at h
        | some l =>
          simp only [hs, hr, Option.some.injEq] at h; subst h
          simp only [List.mapM_cons, Sem.run_bind, tsize_run hs, Result.andThen_ok, Sem.run_pure, ih l hr w]
  intro fs pl h w
  rw [Array.mapM_eq_mapM_toList]
  have := key fs.toList pl h w
  simp only [Sem.run_map, this, Result.andThen_ok]
section
variable {e : Env} {a : Act} (hE : ERel ι e a.tmps)
 include hE

theorem ops_mov {x : Operand} (hx : opdOk x = true) (hS : SRel P ι s w) {v : Option Value} (h : some1 s (ev e x) = some (v, s')) (hF : Fresh ι s s'.k) : OpOK P fl ι s w v s' ((Pure.pure (Next.value (a.eval x)) : Sem Next).run P w) := by
  obtain ⟨rfl, u, hu, rfl⟩ := some1_inv h
  exact OpOK.pure1 hF hS (ev_rel hE hx hu)
theorem ops_nil {x : Operand} (hx : opdOk x = true) (hS : SRel P ι s w) {v : Option Value} (h : rNil s (ev e x) = some (v, s')) (hF : Fresh ι s s'.k) {o : Oper} (ho : o.op = .nilCheck x) : OpOK P fl ι s w v s' ((execOp a.eval o).run P w) := by
  unfold rNil at h
  split at h
  · rename_i p hv
    simp only [Option.some.injEq, Prod.mk.injEq] at h; obtain ⟨rfl, rfl⟩ := h
    have hr := ev_rel hE hx hv
    obtain ⟨R, hR, hsp, he⟩ := hr.ptr_inv
    refine ⟨w, ι, Post.refl hF, hS, _, ?_, hr⟩
    simp [execOp, ho, he]
  · rename_i f fi c hv
    simp only [Option.some.injEq, Prod.mk.injEq] at h; obtain ⟨rfl, rfl⟩ := h
    have hr := ev_rel hE hx hv
    have hr2 := hr
    generalize hg : a.eval x = g at hr hr2
    cases hr
    exact ⟨w, ι, Post.refl hF, hS, _, by simp [execOp, ho, hg], hr2⟩
  · rename_i f fi c hv
    simp only [Option.some.injEq, Prod.mk.injEq] at h; obtain ⟨rfl, rfl⟩ := h
    have hr := ev_rel hE hx hv
    have hr2 := hr
    generalize hg : a.eval x = g at hr hr2
    cases hr
    exact ⟨w, ι, Post.refl hF, hS, _, by simp [execOp, ho, hg], hr2⟩
  · cases h
theorem ops_pick {c x y : Operand} (hok : opdOk c = true ∧ opdOk x = true ∧ opdOk y = true) (hS : SRel P ι s w) {v : Option Value} (h : rPick e s x y (ev e c) = some (v, s')) (hF : Fresh ι s s'.k) {o : Oper} (ho : o.op = .pick c x y) : OpOK P fl ι s w v s' ((execOp a.eval o).run P w) := by
  unfold rPick at h
  split at h
  · rename_i t hv
    have hc := (ev_rel hE hok.1 hv).bool_inv
    obtain ⟨rfl, u, hu, rfl⟩ := some1_inv h
    cases t
    · have := ev_rel hE hok.2.2 hu
      exact ⟨w, ι, Post.refl hF, hS, _, by simp [execOp, ho, hc, asBool], this⟩
    · have := ev_rel hE hok.2.1 hu
      exact ⟨w, ι, Post.refl hF, hS, _, by simp [execOp, ho, hc, asBool], this⟩
  · cases h
theorem ops_box {el n : Nat} {x : Operand} (hx : opdOk x = true) (hS : SRel P ι s w) {imm : Bool} {v : Option Value} (h : rBox s n imm (ev e x) = some (v, s')) (hF : Fresh ι s s'.k) (hfl : fl ≤ s.k) {o : Oper} (ho : o.op = .box el x) : OpOK P fl ι s w v s' ((execOp a.eval o).run P w) := by
  unfold rBox at h
  split at h
  · rename_i u hu
    have hr := (ev_rel hE hx hu).cellsR
    split at h
    · rename_i hn
      simp only [Option.some.injEq, Prod.mk.injEq] at h; obtain ⟨rfl, rfl⟩ := h
      have hk : (s.add imm (.cells (cellsL u))).k = s.k + 1 := by unfold St.add; split <;> rfl
      rw [hk] at hF
      have hl := hr.length
      obtain ⟨p1, p2, p3⟩ := row_new (P := P) hS hF hfl imm el (c := cellsL u) (c' := (a.eval x).cells) (by rw [List.take_of_length_le (by omega)]; exact hr) (by rw [hl]; simp)
      refine ⟨_, _, p1, p2, .pointer (some ⟨w.heap.size, 0, none⟩), by simp [execOp, ho, Instr.box, newVar, newRow_run], ?_⟩
      exact ptr_new (R := ⟨w.heap.size, 0, (a.eval x).cells.size⟩) p3 rfl
    · cases h
  · cases h
end
theorem ops_alloc {el n : Nat} {z : List Value} (hn : tsize P.toTables el = some n) (hz : tzero P.toTables el = some z) (hzl : z.length = n) (hzc : constsOk z = true) (hS : SRel P ι s w) (hF : Fresh ι s (s.k + 1)) (hfl : fl ≤ s.k) {a : Act} {o : Oper} (ho : o.op = .alloc el) :
    OpOK P fl ι s w (some (ptrTo s.k)) (s.new (.cells z)) ((execOp a.eval o).run P w) := by
  obtain ⟨zv, h1, h2⟩ := tzero_run (P := P) hz w
  obtain ⟨p1, p2, p3⟩ := row_new (P := P) hS hF hfl false el (c := z) (c' := zv.cells) (by rw [h2]; simpa using VRels.const ι z hzc) (by rw [h2]; simp)
  refine ⟨_, _, p1, p2, .pointer (some ⟨w.heap.size, 0, none⟩), by simp [execOp, ho, Instr.alloc, newVar, h1, newRow_run], ?_⟩
  exact ptr_new (R := ⟨w.heap.size, 0, zv.cells.size⟩) p3 rfl
section
variable {e : Env} {a : Act} (hE : ERel ι e a.tmps)
 include hE
theorem ops_build {t : TypeId} {m : Bool} {ps : Array (Nat × Operand)} {z : List Value} {l : List (Nat × Nat × Operand)} {o : Oper} (ho : o.op = .build t ps) (hc : compOp P m o = some (.build z l)) (hok : partsOk l = true ∧ constsOk z = true)
    (hS : SRel P ι s w) {v : Option Value} (h : rBuild s z (evParts e l) = some (v, s')) (hF : Fresh ι s s'.k) : OpOK P fl ι s w v s' ((execOp a.eval o).run P w) := by
  unfold rBuild at h
  cases hp : evParts e l with
  | none => simp [hp] at h
  | some vs =>
    simp only [hp] at h
    cases hf : fill z vs with
    | none => simp [hf] at h
    | some c =>
      simp only [hf, Option.some.injEq, Prod.mk.injEq] at h; obtain ⟨rfl, rfl⟩ := h
      simp only [compOp, ho] at hc
      cases hu : under P.toTables t with
      | none => simp [hu] at hc
      | some d =>
        cases hz : tzero P.toTables t with
        | none => cases d <;> simp [hu, hz] at hc
        | some z0 =>
          obtain ⟨zv, h1, h2⟩ := tzero_run (P := P) hz w
          cases d with
          | struct fs =>
            simp only [hu, hz] at hc
            cases hpl : placesOf P.toTables fs.toList with
            | none => simp [hpl] at hc
            | some pl =>
              simp only [hpl, Option.map_eq_some_iff] at hc
              obtain ⟨l0, hl0, he⟩ := hc
              injection he with e1 e2; subst e1; subst e2
              have hpr := parts_rel hE _ hl0 hok.1 hp
              obtain ⟨r', g1, g2⟩ := fill_run hpr (c' := zv.cells) (by rw [h2]; simpa using VRels.const ι z0 hok.2) hf
              have hm := places_run hpl w
              refine ⟨w, ι, Post.refl hF, hS, .agg r', ?_, .agg (by simpa using g2)⟩
              have hg : Instr.fill (fun x => pl.toArray[x]?) zv.cells (Array.map (fun x : Nat × Operand => (x.1, a.eval x.2)) ps).toList = some r' := by
                simpa using g1
              simp only [execOp, ho, Instr.build, Sem.run_bind, h1, Result.andThen_ok, under_run hu, hm]
              simp only [hg, Sem.run_pure, Result.andThen_ok]
          | array n el =>
            simp only [hu, hz] at hc
            cases hsz : tsize P.toTables el with
            | none => simp [hsz] at hc
            | some sz =>
              simp only [hsz, Option.map_eq_some_iff] at hc
              obtain ⟨l0, hl0, he⟩ := hc
              injection he with e1 e2; subst e1; subst e2
              have hpr := parts_rel hE _ hl0 hok.1 hp
              obtain ⟨r', g1, g2⟩ := fill_run hpr (c' := zv.cells) (by rw [h2]; simpa using VRels.const ι z0 hok.2) hf
              refine ⟨w, ι, Post.refl hF, hS, .agg r', ?_, .agg (by simpa using g2)⟩
              have hg : Instr.fill (fun i => some (i * sz, sz)) zv.cells (Array.map (fun x : Nat × Operand => (x.1, a.eval x.2)) ps).toList = some r' := by
                simpa using g1
              simp only [execOp, ho, Instr.build, Sem.run_bind, h1, Result.andThen_ok, under_run hu, tsize_run hsz]
              simp only [hg, Sem.run_pure, Result.andThen_ok]
          | _ => simp [hu, hz] at hc
end
end Go.Ev
/- One operation that is no call: the rest. -/
namespace Go.Ev
variable {P : Program} {w : World} {ι : Inj} {s s' : St} {fl : Nat}
section
variable {e : Env} {a : Act} (hE : ERel ι e a.tmps)
 include hE
theorem ops_buildSlice {t : TypeId} {m imm : Bool} {len n len0 : Nat} {ps : Array (Nat × Operand)} {z : List Value} {l : List (Nat × Nat × Operand)} {o : Oper} (ho : o.op = .buildSlice t len ps) (hc : compOp P m o = some (.buildSlice n len0 z l imm)) (hok : partsOk l = true ∧ constsOk z = true)
    (hS : SRel P ι s w) {v : Option Value} (h : rBuildSlice s n len0 z imm (evParts e l) = some (v, s')) (hF : Fresh ι s s'.k) (hfl : fl ≤ s.k) : OpOK P fl ι s w v s' ((execOp a.eval o).run P w) := by
  unfold rBuildSlice at h
  cases hp : evParts e l with
  | none => simp [hp] at h
  | some vs =>
    simp only [hp] at h
    cases hf : fill (rep z len0) vs with
    | none => simp [hf] at h
    | some c =>
      simp only [hf, Option.some.injEq, Prod.mk.injEq] at h; obtain ⟨rfl, rfl⟩ := h
      simp only [compOp, ho] at hc
      split at hc
      · rename_i el hu
        split at hc
        · rename_i n0 z0 hn hz
          split at hc
          · rename_i hcond
            simp only [Option.map_eq_some_iff] at hc
            obtain ⟨l0, hl0, he⟩ := hc
            injection he with e1 e2 e3 e4 e5; subst e1; subst e2; subst e3; subst e4; subst e5
            have hpr := parts_rel hE _ hl0 hok.1 hp
            obtain ⟨zv, h1, h2⟩ := tzero_run (P := P) hz w
            have hzp : 0 < z0.length := by rw [hcond.2.1]; exact hcond.2.2
            obtain ⟨hle, hzl, hpos⟩ := hcond
            -- the zero cells
            have hfull := rep_full z0 len hzp
            rw [hzl] at hfull
            have hzc : zv.cells = z0.toArray := h2
            obtain ⟨r', g1, g2⟩ := fill_run hpr (c := rep z0 len) (c' := ((Array.range (len * n0)).map (fun i => z0.toArray[i % z0.toArray.size]!))) (by rw [hfull]; exact VRels.const ι _ (constsOk_rep hok.2 len)) hf
            have hk : (s.add m (.cells c)).k = s.k + 1 := by unfold St.add; split <;> rfl
            rw [hk] at hF
            have hcl : c.length = len * n0 := by
              have flen : ∀ (l : List (Nat × Nat × Value)) (c r : List Value), fill c l = some r → r.length = c.length := by
                intro l
                induction l with
                | nil => intro c r h; simp only [fill, Option.some.injEq] at h; rw [h]
                | cons q l ih =>
                  intro c r h
                  obtain ⟨x, y, u⟩ := q
                  simp only [fill] at h
                  split at h
                  · rename_i hq
                    rw [ih _ _ h]; simp; omega
                  · cases h
              rw [flen _ _ _ hf, rep_length, hzl]
            have hrl := g2.length
            obtain ⟨p1, p2, p3⟩ := row_new (P := P) hS hF hfl m el (c := c) (c' := r') (by rw [List.take_of_length_le (by omega)]; exact g2) (by rw [hrl]; simp)
            have hrs : r'.size = len * n0 := by rw [← hcl, hrl]; simp
            refine ⟨_, _, p1, p2, .slice (some ⟨w.heap.size, 0, none⟩) len len, ?_, sl_new (R := ⟨w.heap.size, 0, r'.size⟩) p3 rfl (Nat.le_refl _)⟩
            have hg : Instr.fill (fun i => some (i * n0, n0)) ((Array.range (len * n0)).map (fun i => z0.toArray[i % z0.toArray.size]!)) (Array.map (fun x : Nat × Operand => (x.1, a.eval x.2)) ps).toList = some r' := by simpa using g1
            simp only [execOp, ho, Instr.buildSlice, Sem.run_bind, under_run hu, Result.andThen_ok, tsize_run hn]
            rw [if_neg (by omega)]
            by_cases hz0 : len * n0 = 0
            · have hg0 : Instr.fill (fun i => some (i * n0, n0)) ((Array.range (len * n0)).map (fun i => (#[] : Array Value)[i % (#[] : Array Value).size]!)) (Array.map (fun x : Nat × Operand => (x.1, a.eval x.2)) ps).toList = some r' := by
                have e0 : Array.range 0 = #[] := by apply Array.ext'; simp
                rw [← hg, hz0, e0]; simp
              simp only [Sem.run_pure, Result.andThen_ok, Sem.run_bind, hz0, if_true]
              rw [hz0] at hg0
              simp only [hg0, Sem.run_bind, newRow_run, Result.andThen_ok, Sem.run_pure]
            · simp only [Sem.run_pure, Result.andThen_ok, Sem.run_bind, if_neg hz0, h1, hzc, hg, newRow_run]
          · cases hc
        · cases hc
      · cases hc
theorem ops_func {f : Nat} {fi cp : List Operand} (hok : opdsOk fi = true ∧ opdsOk cp = true) (hS : SRel P ι s w) {v : Option Value} (h : rFunc s (.func f) (evs e fi) (evs e cp) = some (v, s')) (hF : Fresh ι s s'.k) {o : Oper} {x y : Array Operand} (ho : o.op = .makeFunc (.func f) x y) (hx : x.toList = fi) (hy : y.toList = cp) : OpOK P fl ι s w v s' ((execOp a.eval o).run P w) := by
  unfold rFunc at h
  split at h
  · rename_i q r h1 h2
    simp only [Option.some.injEq, Prod.mk.injEq] at h; obtain ⟨rfl, rfl⟩ := h
    have r1 := evs_rel hE hok.1 h1
    have r2 := evs_rel hE hok.2 h2
    refine ⟨w, ι, Post.refl hF, hS, .func (.func f) (x.map a.eval) (y.map a.eval), by simp [execOp, ho, Instr.makeFunc], .func ?_ ?_⟩
    · rw [← hx] at r1; simpa using r1
    · rw [← hy] at r2; simpa using r2
  · cases h
theorem ops_sliceStr {t : TypeId} {x : Operand} {lo hi : Option Operand} (hok : opdOk x = true ∧ oopdOk lo = true ∧ oopdOk hi = true) (hS : SRel P ι s w) {v : Option Value} (h : rSliceStr s (ev e x) (evo e lo) (evo e hi) = some (v, s')) (hF : Fresh ι s s'.k) {o : Oper} (hu : under P.toTables t = some .string) (ho : o.op = .slice t x lo hi none) : OpOK P fl ι s w v s' ((execOp a.eval o).run P w) := by
  unfold rSliceStr at h
  split at h
  · rename_i b l0 h0 hb hl hh
    split at h
    · rename_i l h m hbd
      simp only [Option.some.injEq, Prod.mk.injEq] at h; obtain ⟨rfl, rfl⟩ := h
      have hx := (ev_rel hE hok.1 hb).str_inv
      obtain ⟨m', g1, g2, g3, g4, g5, g6⟩ := bounds_run (P := P) hbd (Nat.le_refl _) (Nat.le_refl _) (evo_rel hE hok.2.1 hl) (evo_rel hE hok.2.2 hh) (.none) false w (fun _ _ => trivial)
      refine ⟨w, ι, Post.refl hF, hS, .string _, ?_, .string _⟩
      have hsz : b.size = b.data.toList.length := rfl
      simp only [execOp, ho, Instr.sliceAt, Instr.slice, Sem.run_bind, under_run hu, Result.andThen_ok, hx]
      simp only [Option.map_none, Option.isSome_none, Bool.false_eq_true, if_false, Sem.run_bind, Sem.run_pure, Result.andThen_ok]
      rw [← hsz] at g1
      simp only [g1, Result.andThen_ok, Sem.run_pure]
      congr 3
      apply ByteArray.ext
      apply Array.ext'
      simp only [ByteArray.data_extract, Array.toList_extract, List.extract_eq_take_drop]
    · cases h
  · cases h
theorem ops_sliceSl {t el n : Nat} {x : Operand} {lo hi mx : Option Operand} (hok : opdOk x = true ∧ oopdOk lo = true ∧ oopdOk hi = true ∧ oopdOk mx = true) (hS : SRel P ι s w) {v : Option Value} (h : rSliceSl s n (ev e x) (evo e lo) (evo e hi) (evo e mx) = some (v, s')) (hF : Fresh ι s s'.k) {o : Oper} (hu : under P.toTables t = some (.slice el)) (hn : tsize P.toTables el = some n) (ho : o.op = .slice t x lo hi mx) : OpOK P fl ι s w v s' ((execOp a.eval o).run P w) := by
  unfold rSliceSl at h
  split at h
  · rename_i ad len cap l0 h0 m0 hb hl hh hm
    split at h
    · rename_i l h' m hbd
      have hx := ev_rel hE hok.1 hb
      have r1 := evo_rel hE hok.2.1 hl
      have r2 := evo_rel hE hok.2.2.1 hh
      have r3 := evo_rel hE hok.2.2.2 hm
      split at h
      · -- a nil slice
        simp only [Option.some.injEq, Prod.mk.injEq] at h; obtain ⟨rfl, rfl⟩ := h
        generalize hg : a.eval x = g at hx
        cases hx with
        | sliceNil l1 c1 hlc =>
          obtain ⟨m', g1, g2, g3, g4, g5, g6⟩ := bounds_run (P := P) hbd (Nat.le_refl _) hlc r1 r2 r3 true w (fun _ _ => trivial)
          have hmm : m' = m := by
            cases hmx : m0 with
            | none => obtain ⟨e1, e2⟩ := g4 hmx; omega
            | some z => exact g3 (by rw [hmx]; rfl)
          subst hmm
          refine ⟨w, ι, Post.refl hF, hS, .slice none (h' - l) (m' - l), ?_, .sliceNil _ _ (by omega)⟩
          simp [execOp, ho, Instr.sliceAt, Instr.slice, under_run hu, hg, g1, tsize_run hn]
      · rename_i p
        split at h
        · rename_i sp hsp
          simp only [Option.some.injEq, Prod.mk.injEq] at h; obtain ⟨rfl, rfl⟩ := h
          generalize hg : a.eval x = g at hx
          cases hx with
          | slice hbb hof hc hlc hsn =>
            rename_i b off o' sp0 cap' R
            obtain ⟨m', g1, g2, g3, g4, g5, g6⟩ := bounds_run (P := P) hbd hc hlc r1 r2 r3 true w (fun _ _ => trivial)
            refine ⟨w, ι, Post.refl hF, hS, .slice (some (if m' = l then ⟨R.r, o', none⟩ else ⟨R.r, o' + l * n, none⟩)) (h' - l) (m' - l), ?_, ?_⟩
            · simp only [execOp, ho, Instr.sliceAt, Instr.slice, Sem.run_bind, under_run hu, Result.andThen_ok, hg, g1, tsize_run hn, Sem.run_pure, Option.map_some, add_none]
              split <;> rfl
            · have hcm : m ≤ cap := by
                unfold bounds at hbd
                revert hbd
                cases m0 with
                | none =>
                  simp only
                  intro hbd
                  have := (g4 rfl).1; omega
                | some z =>
                  simp only
                  intro hbd
                  cases hz : asNat cap z with
                  | none => simp [hz] at hbd
                  | some k =>
                    have hk : k ≤ cap := by
                      unfold asNat at hz
                      split at hz
                      · split at hz
                        · simp only [Option.some.injEq] at hz; omega
                        · cases hz
                      · cases hz
                    simp only [hz] at hbd
                    (repeat' split at hbd) <;> first
                      | (simp only [Option.some.injEq, Prod.mk.injEq] at hbd; omega)
                      | cases hbd
              have hsp' : SpotOk sp (if m' = l then o' else o' + l * n) (m - l) (m' - l) R.n := by
                unfold spotOf at hsp
                simp only at hsp
                cases sp0 with
                | none => exact absurd hsn (by simp [SpotOk])
                | some q =>
                  cases q with
                  | zero =>
                    simp only [Option.some.injEq] at hsp; subst hsp
                    have he : cap = cap' := hsn
                    show m - l = m' - l
                    cases hmx : m0 with
                    | none => obtain ⟨e1, e2⟩ := g4 hmx; omega
                    | some z => rw [g3 (by rw [hmx]; rfl)]
                  | succ q =>
                    simp only at hsp
                    split at hsp
                    · rename_i hq
                      have hsn' : o' + cap' * (q + 1) ≤ R.n := hsn
                      cases hmx : m0 with
                      | some z =>
                        rw [hmx] at hsp
                        simp only [Option.isSome_some, if_true, Option.some.injEq] at hsp; subst hsp
                        show m - l = m' - l
                        rw [g3 (by rw [hmx]; rfl)]
                      | none =>
                        rw [hmx] at hsp
                        simp only [Option.isSome_none, Bool.false_eq_true, if_false, Option.some.injEq] at hsp; subst hsp
                        obtain ⟨e1, e2⟩ := g4 hmx
                        show (if m' = l then o' else o' + l * n) + (m' - l) * (q + 1) ≤ R.n
                        rw [← hq]
                        have hlm : l ≤ m' := by omega
                        split
                        · rename_i hml
                          rw [hml, Nat.sub_self, Nat.zero_mul]; omega
                        · rw [Nat.sub_mul]
                          have h1 : l * (q + 1) ≤ m' * (q + 1) := Nat.mul_le_mul_right _ hlm
                          rw [e2] at h1 ⊢
                          omega
                    · cases hsp
              have hpt : (if m' = l then (⟨R.r, o', none⟩ : Addr) else ⟨R.r, o' + l * n, none⟩) = ⟨R.r, if m' = l then o' else o' + l * n, none⟩ := by split <;> rfl
              rw [hpt]
              refine .slice hbb ?_ (by omega) (by omega) hsp'
              by_cases hml : m = l
              · left; omega
              · right
                rw [if_neg (by omega)]
                have := hof.resolve_left (by omega)
                simp only; omega
        · cases h
    · cases h
  · cases h
end
end Go.Ev
/- One operation that is no call: arrays' slices, places, fields, maps, lengths, copies. -/
namespace Go.Ev
variable {P : Program} {w : World} {ι : Inj} {s s' : St} {fl : Nat}
section
variable {e : Env} {a : Act} (hE : ERel ι e a.tmps)
 include hE
theorem ops_sliceArr {t el n k : Nat} {x : Operand} {lo hi mx : Option Operand} (hok : opdOk x = true ∧ oopdOk lo = true ∧ oopdOk hi = true ∧ oopdOk mx = true) (hS : SRel P ι s w) {v : Option Value} (h : rSliceArr s n k (ev e x) (evo e lo) (evo e hi) (evo e mx) = some (v, s')) (hF : Fresh ι s s'.k) {o : Oper} (hu : under P.toTables t = some (.array k el)) (hn : tsize P.toTables el = some n) (ho : o.op = .slice t x lo hi mx) : OpOK P fl ι s w v s' ((execOp a.eval o).run P w) := by
  unfold rSliceArr at h
  split at h
  · rename_i p l0 h0 m0 hb hl hh hm
    split at h
    · rename_i l h' m hbd
      simp only [Option.some.injEq, Prod.mk.injEq] at h; obtain ⟨rfl, rfl⟩ := h
      have hx := ev_rel hE hok.1 hb
      obtain ⟨R, hR, hsp, he⟩ := hx.ptr_inv
      obtain ⟨m', g1, g2, g3, g4, g5, g6⟩ := bounds_run (P := P) hbd (Nat.le_refl _) (Nat.le_refl _) (evo_rel hE hok.2.1 hl) (evo_rel hE hok.2.2.1 hh) (evo_rel hE hok.2.2.2 hm) false w (fun _ _ => trivial)
      have hmm : m' = m := by
        cases hmx : m0 with
        | none => obtain ⟨e1, e2⟩ := g4 hmx; omega
        | some z => exact g3 (by rw [hmx]; rfl)
      subst hmm
      refine ⟨w, ι, Post.refl hF, hS, .slice (some ⟨R.r, if m' = l then p.off + R.d else p.off + R.d + l * n, none⟩) (h' - l) (m' - l), ?_, ?_⟩
      · simp only [execOp, ho, Instr.sliceAt, Sem.run_bind, under_run hu, Result.andThen_ok, he, Instr.sureAddr, Sem.run_pure, g1, tsize_run hn, add_none]
        split <;> rfl
      · refine .slice hR ?_ (Nat.le_refl _) (by omega) rfl
        by_cases hml : m' = l
        · left; omega
        · right; rw [if_neg hml]; omega
    · cases h
  · cases h
theorem ops_fieldAddr {t f off : Nat} {fs : Array Field} {fd : Field} {x : Operand} (hx : opdOk x = true) (hS : SRel P ι s w) {v : Option Value} (h : rFieldAddr s off (ev e x) = some (v, s')) (hF : Fresh ι s s'.k) {o : Oper} (hu : under P.toTables t = some (.struct fs)) (hf : fs[f]? = some fd) (hoff : fd.offset = off) (hz : (tsize P.toTables fd.type).getD 0 ≠ 0) (ho : o.op = .fieldAddr t x f) : OpOK P fl ι s w v s' ((execOp a.eval o).run P w) := by
  unfold rFieldAddr at h
  split at h
  · rename_i p hp
    simp only [Option.some.injEq, Prod.mk.injEq] at h; obtain ⟨rfl, rfl⟩ := h
    obtain ⟨R, hR, hsp, he⟩ := (ev_rel hE hx hp).ptr_inv
    cases hs : tsize P.toTables fd.type with
    | none => simp [hs] at hz
    | some sz =>
      simp [hs] at hz
      refine ⟨w, ι, Post.refl hF, hS, .pointer (some ⟨R.r, p.off + R.d + off, none⟩), ?_, ?_⟩
      · simp only [execOp, ho, Instr.fieldAt, Sem.run_bind, under_run hu, Result.andThen_ok, hf, he, Instr.sureAddr, Sem.run_pure, fieldPlace, tsize_run hs, hz, if_false, add_none, hoff]
      · have := VRel.ptr (o := p.off + off) hR
        rw [show p.off + R.d + off = p.off + off + R.d by omega]; exact this
  · cases h
theorem ops_field {t f off : Nat} {ag : Option Nat} {fs : Array Field} {fd : Field} {x : Operand} (hx : opdOk x = true) (hS : SRel P ι s w) {v : Option Value} (h : rField s ag off (ev e x) = some (v, s')) (hF : Fresh ι s s'.k) {o : Oper} (hu : under P.toTables t = some (.struct fs)) (hf : fs[f]? = some fd) (hoff : fd.offset = off) (hz : tagg P.toTables fd.type = some ag) (ho : o.op = .field t x f) : OpOK P fl ι s w v s' ((execOp a.eval o).run P w) := by
  unfold rField at h
  split at h
  · rename_i c hc
    obtain ⟨rfl, u, hu', rfl⟩ := some1_inv h
    have hr := ev_rel hE hx hc
    generalize hg : a.eval x = g at hr
    cases hr with
    | agg hcs =>
      obtain ⟨v', g1, g2⟩ := part_run (P := P) hz hcs hu' w
      refine ⟨w, ι, Post.refl hF, hS, v', ?_, g2⟩
      simp only [execOp, ho, Instr.field, Sem.run_bind, under_run hu, Result.andThen_ok, hf, hg, asAgg, Sem.run_pure, hoff, g1]
  · cases h
theorem ops_indexSl {t el n : Nat} {x i : Operand} (hok : opdOk x = true ∧ opdOk i = true) (hS : SRel P ι s w) {v : Option Value} (h : rIndexSl s n (ev e x) (ev e i) = some (v, s')) (hF : Fresh ι s s'.k) {o : Oper} (hu : under P.toTables t = some (.slice el)) (hn : tsize P.toTables el = some n) (ho : o.op = .indexAddr t x i) : OpOK P fl ι s w v s' ((execOp a.eval o).run P w) := by
  unfold rIndexSl at h
  split at h
  · rename_i p len cap k j hb hj
    split at h
    · rename_i hlt
      simp only [Option.some.injEq, Prod.mk.injEq] at h; obtain ⟨rfl, rfl⟩ := h
      have hx := ev_rel hE hok.1 hb
      have hi := (ev_rel hE hok.2 hj).int_inv
      generalize hg : a.eval x = g at hx
      cases hx with
      | slice hbb hof hc hlc hsn =>
        rename_i b off o' sp cap' R
        have ho' := hof.resolve_left (by omega)
        refine ⟨w, ι, Post.refl hF, hS, .pointer (some ⟨R.r, o' + j.toNat * n, none⟩), ?_, ?_⟩
        · simp only [execOp, ho, Instr.indexAt, Sem.run_bind, hi, asIntOf, Sem.run_pure, Result.andThen_ok, under_run hu, hg]
          simp only [hlt, and_self, if_true, Sem.run_bind, tsize_run hn, Result.andThen_ok, Sem.run_pure, add_none]
        · have := VRel.ptr (o := off + j.toNat * n) hbb
          rw [ho', show off + R.d + j.toNat * n = off + j.toNat * n + R.d by omega]; exact this
    · cases h
  · cases h
theorem ops_indexArrAddr {t el n k : Nat} {x i : Operand} (hok : opdOk x = true ∧ opdOk i = true) (hS : SRel P ι s w) {v : Option Value} (h : rIndexArrAddr s n k (ev e x) (ev e i) = some (v, s')) (hF : Fresh ι s s'.k) {o : Oper} (hu : under P.toTables t = some (.array k el)) (hn : tsize P.toTables el = some n) (ho : o.op = .indexAddr t x i) : OpOK P fl ι s w v s' ((execOp a.eval o).run P w) := by
  unfold rIndexArrAddr at h
  split at h
  · rename_i p kk j hb hj
    split at h
    · rename_i hlt
      simp only [Option.some.injEq, Prod.mk.injEq] at h; obtain ⟨rfl, rfl⟩ := h
      obtain ⟨R, hR, hsp, he⟩ := (ev_rel hE hok.1 hb).ptr_inv
      have hi := (ev_rel hE hok.2 hj).int_inv
      refine ⟨w, ι, Post.refl hF, hS, .pointer (some ⟨R.r, p.off + R.d + j.toNat * n, none⟩), ?_, ?_⟩
      · simp only [execOp, ho, Instr.indexAt, Sem.run_bind, hi, asIntOf, Sem.run_pure, Result.andThen_ok, under_run hu, he, Instr.sureAddr]
        simp only [hlt, and_self, if_true, Sem.run_bind, tsize_run hn, Result.andThen_ok, Sem.run_pure, add_none]
      · have := VRel.ptr (o := p.off + j.toNat * n) hR
        rw [show p.off + R.d + j.toNat * n = p.off + j.toNat * n + R.d by omega]; exact this
    · cases h
  · cases h
theorem ops_indexStr {t : Nat} {x i : Operand} (hok : opdOk x = true ∧ opdOk i = true) (hS : SRel P ι s w) {v : Option Value} (h : rIndexStr s (ev e x) (ev e i) = some (v, s')) (hF : Fresh ι s s'.k) {o : Oper} (hu : under P.toTables t = some .string) (ho : o.op = .index t x i) : OpOK P fl ι s w v s' ((execOp a.eval o).run P w) := by
  unfold rIndexStr at h
  split at h
  · rename_i b kk j hb hj
    split at h
    · rename_i h0
      split at h
      · rename_i c hc
        simp only [Option.some.injEq, Prod.mk.injEq] at h; obtain ⟨rfl, rfl⟩ := h
        have hx := (ev_rel hE hok.1 hb).str_inv
        have hi := (ev_rel hE hok.2 hj).int_inv
        have hbc : b[j.toNat]? = some c := by
          obtain ⟨hlt, hv⟩ := List.getElem?_eq_some_iff.1 hc
          have hlt' : j.toNat < b.size := hlt
          rw [getElem?_pos b j.toNat hlt']
          congr 1
        refine ⟨w, ι, Post.refl hF, hS, _, ?_, .int .u8 c.toNat⟩
        simp only [execOp, ho, Instr.index, Sem.run_bind, hi, asIntOf, Sem.run_pure, Result.andThen_ok, under_run hu, hx]
        rw [if_pos h0, hbc]
        simp
      · cases h
    · cases h
  · cases h
theorem ops_indexArr {t el n k : Nat} {ag : Option Nat} {x i : Operand} (hok : opdOk x = true ∧ opdOk i = true) (hS : SRel P ι s w) {v : Option Value} (h : rIndexArr s ag n k (ev e x) (ev e i) = some (v, s')) (hF : Fresh ι s s'.k) {o : Oper} (hu : under P.toTables t = some (.array k el)) (hn : tsize P.toTables el = some n) (hag : tagg P.toTables el = some ag) (ho : o.op = .index t x i) : OpOK P fl ι s w v s' ((execOp a.eval o).run P w) := by
  unfold rIndexArr at h
  split at h
  · rename_i c kk j hb hj
    split at h
    · rename_i hlt
      obtain ⟨rfl, u, hu', rfl⟩ := some1_inv h
      have hx := ev_rel hE hok.1 hb
      have hi := (ev_rel hE hok.2 hj).int_inv
      generalize hg : a.eval x = g at hx
      cases hx with
      | agg hcs =>
        obtain ⟨v', g1, g2⟩ := part_run (P := P) hag hcs hu' w
        refine ⟨w, ι, Post.refl hF, hS, v', ?_, g2⟩
        simp only [execOp, ho, Instr.index, Sem.run_bind, hi, asIntOf, Sem.run_pure, Result.andThen_ok, under_run hu, hg]
        simp only [hlt, and_self, if_true, Sem.run_bind, tsize_run hn, Result.andThen_ok, g1, Sem.run_pure]
    · cases h
  · cases h
theorem ops_extract {i : Nat} {x : Operand} (hx : opdOk x = true) (hS : SRel P ι s w) {v : Option Value} (h : rExtract s i (ev e x) = some (v, s')) (hF : Fresh ι s s'.k) {o : Oper} (ho : o.op = .extract x i) : OpOK P fl ι s w v s' ((execOp a.eval o).run P w) := by
  unfold rExtract at h
  split at h
  · rename_i vs hv
    obtain ⟨rfl, u, hu, rfl⟩ := some1_inv h
    have hr := ev_rel hE hx hv
    generalize hg : a.eval x = g at hr
    cases hr with
    | tuple hcs =>
      obtain ⟨v', g1, g2⟩ := hcs.get i u hu
      refine ⟨w, ι, Post.refl hF, hS, v', ?_, g2⟩
      rename_i vs'
      have g1' : vs'[i]? = some v' := by simpa using g1
      simp [execOp, ho, Instr.extract, hg, g1']
  · cases h
theorem ops_len {t : Nat} {k : Bool} {x : Operand} (hx : opdOk x = true) (hS : SRel P ι s w) {v : Option Value} (h : rLen s k (ev e x) = some (v, s')) (hF : Fresh ι s s'.k) {o : Oper} {c : Call} (ho : o.op = .call c) (hc : c.callee = .builtin .len) (ha : c.args.toList = [x]) (hty : c.argTypes.toList = [t])
    (hu : match k with | true => under P.toTables t = some .string | false => ∃ el, under P.toTables t = some (.slice el)) : OpOK P fl ι s w v s' ((execOp a.eval o).run P w) := by
  obtain ⟨cc, ar, ty⟩ := c
  simp only at hc ha hty; subst hc
  obtain rfl : ar = #[x] := by cases ar; simp_all
  obtain rfl : ty = #[t] := by cases ty; simp_all
  cases k with
  | true =>
    cases hv : ev e x with
    | none => simp [rLen, hv] at h
    | some u =>
      cases u <;> simp only [rLen, hv, Option.some.injEq, Prod.mk.injEq, reduceCtorEq] at h
      obtain ⟨rfl, rfl⟩ := h
      have hr := (ev_rel hE hx hv).str_inv
      refine ⟨w, ι, Post.refl hF, hS, _, ?_, .int .i64 _⟩
      simp only [execOp, ho, resolve, Sem.run_bind, Sem.run_pure, Result.andThen_ok, invoke, builtin, Builtin.len_]
      simp [under_run hu, hr, goInt]
  | false =>
    cases hv : ev e x with
    | none => simp [rLen, hv] at h
    | some u =>
      cases u <;> simp only [rLen, hv, Option.some.injEq, Prod.mk.injEq, reduceCtorEq] at h
      obtain ⟨rfl, rfl⟩ := h
      have hr := ev_rel hE hx hv
      obtain ⟨el, hu⟩ := hu
      rename_i n cp
      generalize hg : a.eval x = g at hr
      have hlen : ∃ b' cp', g = .slice b' n cp' := by cases hr <;> exact ⟨_, _, rfl⟩
      obtain ⟨b', cp', rfl⟩ := hlen
      refine ⟨w, ι, Post.refl hF, hS, _, ?_, .int .i64 _⟩
      simp only [execOp, ho, resolve, Sem.run_bind, Sem.run_pure, Result.andThen_ok, invoke, builtin, Builtin.len_]
      simp [under_run hu, hg, goInt]
theorem ops_cap {t el : Nat} {x : Operand} (hx : opdOk x = true) (hS : SRel P ι s w) {v : Option Value} (h : rCap s (ev e x) = some (v, s')) (hF : Fresh ι s s'.k) {o : Oper} {c : Call} (ho : o.op = .call c) (hc : c.callee = .builtin .cap) (ha : c.args.toList = [x]) (hty : c.argTypes.toList = [t]) (hu : under P.toTables t = some (.slice el)) : OpOK P fl ι s w v s' ((execOp a.eval o).run P w) := by
  obtain ⟨cc, ar, ty⟩ := c
  simp only at hc ha hty; subst hc
  obtain rfl : ar = #[x] := by cases ar; simp_all
  obtain rfl : ty = #[t] := by cases ty; simp_all
  unfold rCap at h
  split at h
  · rename_i n cp hv
    simp only [Option.some.injEq, Prod.mk.injEq] at h; obtain ⟨rfl, rfl⟩ := h
    have hr := ev_rel hE hx hv
    generalize hg : a.eval x = g at hr
    cases hr
    refine ⟨w, ι, Post.refl hF, hS, _, ?_, .int .i64 _⟩
    simp only [execOp, ho, resolve, Sem.run_bind, Sem.run_pure, Result.andThen_ok, invoke, builtin, Builtin.cap_]
    simp [under_run hu, hg, goInt]
  · rename_i p n cp hv
    split at h
    · rename_i hsp
      simp only [Option.some.injEq, Prod.mk.injEq] at h; obtain ⟨rfl, rfl⟩ := h
      have hr := ev_rel hE hx hv
      generalize hg : a.eval x = g at hr
      cases hr with
      | slice hbb hof hcc hlc hsn =>
        simp only at hsp; subst hsp
        obtain rfl : cp = _ := hsn
        refine ⟨w, ι, Post.refl hF, hS, _, ?_, .int .i64 _⟩
        simp only [execOp, ho, resolve, Sem.run_bind, Sem.run_pure, Result.andThen_ok, invoke, builtin, Builtin.cap_]
        simp [under_run hu, hg, goInt]
    · cases h
  · cases h
theorem ops_iface {t : Nat} {x : Operand} (hx : opdOk x = true) (hS : SRel P ι s w) {v : Option Value} (h : rIface s t (ev e x) = some (v, s')) (hF : Fresh ι s s'.k) {o : Oper} (ho : o.op = .makeInterface t x) {d : TypeDesc} (hu : under P.toTables t = some d) (hd : ∀ m, d ≠ .interface m) : OpOK P fl ι s w v s' ((execOp a.eval o).run P w) := by
  unfold rIface at h
  split at h
  · rename_i u hv
    simp only [Option.some.injEq, Prod.mk.injEq] at h; obtain ⟨rfl, rfl⟩ := h
    have hr := ev_rel hE hx hv
    refine ⟨w, ι, Post.refl hF, hS, .iface t (a.eval x), ?_, .iface t hr⟩
    simp only [execOp, ho, Instr.makeInterface, Sem.run_bind, under_run hu, Result.andThen_ok]
    cases d <;> first
      | exact absurd rfl (hd _)
      | simp
  · cases h
theorem ops_min {x y : Operand} (hok : opdOk x = true ∧ opdOk y = true) (hS : SRel P ι s w) {v : Option Value} (h : rMin s (ev e x) (ev e y) = some (v, s')) (hF : Fresh ι s s'.k) {o : Oper} {c : Call} (ho : o.op = .call c) (hc : c.callee = .builtin .min) (ha : c.args.toList = [x, y]) : OpOK P fl ι s w v s' ((execOp a.eval o).run P w) := by
  obtain ⟨cc, ar, ty⟩ := c
  simp only at hc ha; subst hc
  obtain rfl : ar = #[x, y] := by cases ar; simp_all
  unfold rMin at h
  split at h
  · rename_i k n kk m h1 h2
    simp only [Option.some.injEq, Prod.mk.injEq] at h; obtain ⟨rfl, rfl⟩ := h
    have r1 := (ev_rel hE hok.1 h1).int_inv
    have r2 := (ev_rel hE hok.2 h2).int_inv
    refine ⟨w, ι, Post.refl hF, hS, _, ?_, .int k _⟩
    simp [execOp, ho, resolve, invoke, builtin, Builtin.min_, r1, r2, Builtin.min2]
  · cases h
theorem ops_max {x y : Operand} (hok : opdOk x = true ∧ opdOk y = true) (hS : SRel P ι s w) {v : Option Value} (h : rMax s (ev e x) (ev e y) = some (v, s')) (hF : Fresh ι s s'.k) {o : Oper} {c : Call} (ho : o.op = .call c) (hc : c.callee = .builtin .max) (ha : c.args.toList = [x, y]) : OpOK P fl ι s w v s' ((execOp a.eval o).run P w) := by
  obtain ⟨cc, ar, ty⟩ := c
  simp only at hc ha; subst hc
  obtain rfl : ar = #[x, y] := by cases ar; simp_all
  unfold rMax at h
  split at h
  · rename_i k n kk m h1 h2
    simp only [Option.some.injEq, Prod.mk.injEq] at h; obtain ⟨rfl, rfl⟩ := h
    have r1 := (ev_rel hE hok.1 h1).int_inv
    have r2 := (ev_rel hE hok.2 h2).int_inv
    refine ⟨w, ι, Post.refl hF, hS, _, ?_, .int k _⟩
    simp [execOp, ho, resolve, invoke, builtin, Builtin.max_, r1, r2, Builtin.max2]
  · cases h
end
end Go.Ev
/- One operation that is no call: append, copy, clear, make, maps, conversions. -/
namespace Go.Ev
variable {P : Program} {w : World} {ι : Inj} {s s' : St} {fl : Nat}
section
variable {e : Env} {a : Act} (hE : ERel ι e a.tmps)
 include hE
theorem ops_append {t u el n b : Nat} {z : List Value} {d : TypeDesc} {x y : Operand} (hok : opdOk x = true ∧ opdOk y = true) (hS : SRel P ι s w) {v : Option Value} (h : rAppend fl s n b (ev e x) (ev e y) = some (v, s')) (hF : Fresh ι s s'.k) (hfl : fl ≤ s.k) {o : Oper} {c : Call} (ho : o.op = .call c) (hc : c.callee = .builtin .append) (ha : c.args.toList = [x, y]) (hty : c.argTypes.toList = [t, u])
    (hu : under P.toTables t = some (.slice el)) (hd : under P.toTables u = some d) (hdn : ∀ k, d ≠ .int k) (hn : tsize P.toTables el = some n) (hb : tbytes P.toTables el = some b) (hz : tzero P.toTables el = some z) (hzl : z.length = n) (hn0 : 0 < n) : OpOK P fl ι s w v s' ((execOp a.eval o).run P w) := by
  obtain ⟨cc, ar, ty⟩ := c
  simp only at hc ha hty; subst hc
  obtain rfl : ar = #[x, y] := by cases ar; simp_all
  obtain rfl : ty = #[t, u] := by cases ty; simp_all
  unfold rAppend at h
  split at h
  · rename_i xv yv h1 h2
    obtain ⟨r, hr, rfl⟩ := lift1_inv h
    have rx := ev_rel hE hok.1 h1
    have ry := ev_rel hE hok.2 h2
    unfold appendOp at hr
    split at hr
    · rename_i m hm
      split at hr
      · rename_i new hnew
        obtain ⟨new', hfirst, g2, g3⟩ := elem_run0 (P := P) hS hnew ry
        have hlen := lenV_run (P := P) hm ry w
        have hrel : ∃ base sLen sCap, a.eval x = .slice base sLen sCap := by
          unfold appendCells at hr
          split at hr
          · generalize a.eval x = g at rx
            cases rx <;> exact ⟨_, _, _, rfl⟩
          · cases hr
        obtain ⟨base, sLen, sCap, hxe⟩ := hrel
        rw [hxe] at rx
        obtain ⟨v', w', ι', q1, q2, q3, q4⟩ := tail_ok (P := P) hn hb hz hzl hn0 hS hr hF hfl rx g2 g3 (a.eval y) false (Builtin.firstCells n m (a.eval y)) hfirst
        refine ⟨w', ι', q2, q3, v', ?_, q4⟩
        have hap : (Builtin.append_ #[t, u] o.type #[a.eval x, a.eval y]).run P w = (appTail el sLen m sCap n base (.slice base sLen sCap) (a.eval y) false (Builtin.firstCells n m (a.eval y))).run P w := by
          have hz0 : (match d with | .int _ => true | _ => false) = false := by cases d <;> first | rfl | exact absurd rfl (hdn _)
          have e0 : (#[t, u] : Array Nat)[0]? = some t := rfl
          have e1 : (#[t, u] : Array Nat)[1]? = some u := rfl
          have e2 : (#[Value.slice base sLen sCap, a.eval y] : Array Value)[0]? = some (.slice base sLen sCap) := rfl
          have e3 : (#[Value.slice base sLen sCap, a.eval y] : Array Value)[1]? = some (a.eval y) := rfl
          rw [hxe]
          simp only [Builtin.append_, e0, e1, e2, e3]
          simp only [Sem.run_bind, under_run hu, Result.andThen_ok, tsize_run hn, under_run hd, Sem.run_pure, hz0, Bool.false_eq_true, if_false, hlen]
          simp only [appTail, Bool.not_false, if_true, Bool.false_eq_true, if_false]
          rfl
        simp only [execOp, ho, resolve, Sem.run_bind, Sem.run_pure, Result.andThen_ok, invoke, builtin]
        simp [hap, q1]
      · cases hr
    · cases hr
  · cases h
theorem ops_appendZ {t u el n b : Nat} {z : List Value} {kk : IntKind} {x y : Operand} (hok : opdOk x = true ∧ opdOk y = true) (hzc : constsOk z = true) (hS : SRel P ι s w) {v : Option Value} (h : rAppendZ fl s n b z (ev e x) (ev e y) = some (v, s')) (hF : Fresh ι s s'.k) (hfl : fl ≤ s.k) {o : Oper} {c : Call} (ho : o.op = .call c) (hc : c.callee = .builtin .append) (ha : c.args.toList = [x, y]) (hty : c.argTypes.toList = [t, u])
    (hu : under P.toTables t = some (.slice el)) (hd : under P.toTables u = some (.int kk)) (hn : tsize P.toTables el = some n) (hb : tbytes P.toTables el = some b) (hz : tzero P.toTables el = some z) (hzl : z.length = n) (hn0 : 0 < n) : OpOK P fl ι s w v s' ((execOp a.eval o).run P w) := by
  obtain ⟨cc, ar, ty⟩ := c
  simp only at hc ha hty; subst hc
  obtain rfl : ar = #[x, y] := by cases ar; simp_all
  obtain rfl : ty = #[t, u] := by cases ty; simp_all
  unfold rAppendZ at h
  split at h
  · rename_i xv m h1 h2
    split at h
    · rename_i hm
      obtain ⟨r, hr, rfl⟩ := lift1_inv h
      have rx := ev_rel hE hok.1 h1
      have ry := (ev_rel hE hok.2 h2).int_inv
      have hbl : b < 65536 ∨ True := .inr trivial
      have hrel : ∃ base sLen sCap, a.eval x = .slice base sLen sCap := by
        unfold appendCells at hr
        split at hr
        · generalize a.eval x = g at rx
          cases rx <;> exact ⟨_, _, _, rfl⟩
        · cases hr
      obtain ⟨base, sLen, sCap, hxe⟩ := hrel
      rw [hxe] at rx
      have hzp : 0 < z.length := by omega
      have hfull := rep_full z m.toNat hzp
      have hnew : VRels ι (rep z m.toNat) (Builtin.zeroCells z.toArray m.toNat).toList := by
        have : (Builtin.zeroCells z.toArray m.toNat).toList = rep z m.toNat := by
          rw [← hfull]; simp only [Builtin.zeroCells, List.size_toArray]
        rw [this]; exact VRels.const ι _ (constsOk_rep hzc _)
      have hzr : ∀ w2 : World, ∃ zv, (zeroValue el).run P w2 = .ok zv w2 ∧ zv.cells = z.toArray := fun w2 => tzero_run (P := P) hz w2
      have happ : ∀ w2 : World, w2.heap = w.heap → (if m.toNat * n = 0 then (pure #[] : Sem (Array Value)) else do pure (Builtin.zeroCells (← zeroValue el).cells m.toNat)).run P w2 = .ok (Builtin.zeroCells z.toArray m.toNat) w2 := by
        intro w2 _
        obtain ⟨zv, k1, k2⟩ := hzr w2
        by_cases h0 : m.toNat * n = 0
        · rw [if_pos h0]
          have : m.toNat = 0 := by
            rcases Nat.mul_eq_zero.1 h0 with h | h
            · exact h
            · omega
          rw [this]
          have : Builtin.zeroCells z.toArray 0 = #[] := by apply Array.ext'; simp [Builtin.zeroCells]
          rw [this]; simp
        · rw [if_neg h0]; simp [k1, k2]
      obtain ⟨v', w', ι', q1, q2, q3, q4⟩ := tail_ok (P := P) hn hb hz hzl hn0 hS hr hF hfl rx hnew (by rw [rep_length, hzl]) (a.eval y) true _ happ
      refine ⟨w', ι', q2, q3, v', ?_, q4⟩
      obtain ⟨i, hi, hib⟩ := tbytes_run (P := P) hb w
      have hap : (Builtin.append_ #[t, u] o.type #[a.eval x, a.eval y]).run P w = (appTail el sLen m.toNat sCap n base (.slice base sLen sCap) (a.eval y) true (if m.toNat * n = 0 then (pure #[] : Sem (Array Value)) else do pure (Builtin.zeroCells (← zeroValue el).cells m.toNat))).run P w := by
        have e0 : (#[t, u] : Array Nat)[0]? = some t := rfl
        have e1 : (#[t, u] : Array Nat)[1]? = some u := rfl
        have e2 : (#[Value.slice base sLen sCap, a.eval y] : Array Value)[0]? = some (.slice base sLen sCap) := rfl
        have e3 : (#[Value.slice base sLen sCap, a.eval y] : Array Value)[1]? = some (a.eval y) := rfl
        have hwr : IntKind.i64.wrap m = m := by rw [← wrapI_eq]; simp only [wrapI]; rw [if_pos (by omega)]
        rw [hxe]
        simp only [Builtin.append_, e0, e1, e2, e3]
        simp only [Sem.run_bind, under_run hu, Result.andThen_ok, tsize_run hn, under_run hd, Sem.run_pure, if_true]
        simp only [ry, asInt, asIntOf, Sem.run_bind, Sem.run_pure, Result.andThen_ok, hwr]
        rw [if_neg (by omega)]
        simp only [Sem.run_bind, Sem.run_pure, Result.andThen_ok, hi]
        have hmb : m * (i.bytes : Int) ≤ 1073741824 * 65536 := by
          have h1 : m * (i.bytes : Int) ≤ 1073741824 * (i.bytes : Int) := Int.mul_le_mul_of_nonneg_right (by omega) (by omega)
          have h2 : (1073741824 : Int) * (i.bytes : Int) ≤ 1073741824 * 65536 := Int.mul_le_mul_of_nonneg_left (by rw [hib]; omega) (by omega)
          omega
        rw [if_neg (by omega)]
        simp only [Sem.run_bind, Sem.run_pure, Result.andThen_ok]
        simp only [appTail, Bool.not_true, Bool.false_eq_true, if_false, if_true]
        rfl
      have hm2 : (#[x, y] : Array Operand).map a.eval = #[a.eval x, a.eval y] := by simp
      simp only [execOp, ho, resolve, Sem.run_bind, Sem.run_pure, Result.andThen_ok, invoke, builtin, hm2, hap, q1]
    · cases h
  · cases h
theorem ops_copy {t el n : Nat} {x y : Operand} (hok : opdOk x = true ∧ opdOk y = true) (hS : SRel P ι s w) {v : Option Value} (h : rCopy fl s n (ev e x) (ev e y) = some (v, s')) (hF : Fresh ι s s'.k) {o : Oper} {c : Call} (ho : o.op = .call c) (hc : c.callee = .builtin .copy) (ha : c.args.toList = [x, y]) {u : Nat} (hty : c.argTypes.toList = [t, u])
    (hu : under P.toTables t = some (.slice el)) (hn : tsize P.toTables el = some n) : OpOK P fl ι s w v s' ((execOp a.eval o).run P w) := by
  obtain ⟨cc, ar, ty⟩ := c
  simp only at hc ha hty; subst hc
  obtain rfl : ar = #[x, y] := by cases ar; simp_all
  obtain rfl : ty = #[t, u] := by cases ty; simp_all
  have hm2 : (#[x, y] : Array Operand).map a.eval = #[a.eval x, a.eval y] := by simp
  have e0 : (#[t, u] : Array Nat)[0]? = some t := rfl
  unfold rCopy at h
  split at h
  · rename_i base dl cp xv h1 h2
    have rx := ev_rel hE hok.1 h1
    have ry := ev_rel hE hok.2 h2
    split at h
    · rename_i sl hsl
      split at h
      · rename_i cc hcc
        have hlen := lenV_run (P := P) hsl ry w
        obtain ⟨new', g1, g2, g3⟩ := elem_run (P := P) hS hcc ry
        generalize hg : a.eval x = g at rx
        have hgo : ∀ (b' : Option Addr) (cp' : Nat) (w' : World), g = .slice b' dl cp' → (match b' with | some a => storeCells a new'.toList | none => (pure () : Sem Unit)).run P w = .ok () w' →
            (Builtin.copy_ #[t, u] o.type #[g, a.eval y]).run P w = .ok (.int .i64 (min sl dl : Nat)) w' := by
          intro b' cp' w' hgg hst
          subst hgg
          have e2 : (#[Value.slice b' dl cp', a.eval y] : Array Value)[0]? = some (.slice b' dl cp') := rfl
          have e3 : (#[Value.slice b' dl cp', a.eval y] : Array Value)[1]? = some (a.eval y) := rfl
          simp only [Builtin.copy_, e0, e2, e3, Sem.run_bind, under_run hu, Result.andThen_ok, hlen, tsize_run hn]
          rw [show Nat.min sl dl = min sl dl from rfl, g1]
          simp only [Result.andThen_ok]
          cases b' with
          | none => simp at hst; subst hst; simp [goInt]
          | some a => simp only at hst; simp [hst, goInt]
        split at h
        · simp only [Option.some.injEq, Prod.mk.injEq] at h; obtain ⟨rfl, rfl⟩ := h
          cases rx with
          | sliceNil l c hlc =>
            refine ⟨w, ι, Post.refl hF, hS, _, ?_, .int .i64 _⟩
            simp only [execOp, ho, resolve, Sem.run_bind, Sem.run_pure, Result.andThen_ok, invoke, builtin, hm2, hg]
            rw [hgo none _ w rfl (by simp)]; rfl
        · rename_i ad
          cases rx with
          | slice hbb hof hcc2 hlc hsn =>
            rename_i b off o' sp cap' R
            by_cases hm0 : min sl dl = 0
            · rw [if_pos hm0] at h
              simp only [Option.some.injEq, Prod.mk.injEq] at h; obtain ⟨rfl, rfl⟩ := h
              have hne : new' = #[] := by
                have := g2.length
                rw [g3, hm0] at this
                simp at this
                exact Array.eq_empty_of_size_eq_zero this.symm
              refine ⟨w, ι, Post.refl hF, hS, _, ?_, .int .i64 _⟩
              simp only [execOp, ho, resolve, Sem.run_bind, Sem.run_pure, Result.andThen_ok, invoke, builtin, hm2, hg]
              rw [hgo _ _ w rfl (by simp [hne, storeCells])]; rfl
            · rw [if_neg hm0] at h
              cases hst : s.st fl b off cc with
              | none => simp [hst] at h
              | some s1 =>
                simp only [hst, Option.some.injEq, Prod.mk.injEq] at h; obtain ⟨rfl, rfl⟩ := h
                have hk1 : s1.k = s.k := by
                  unfold St.st at hst
                  (repeat' split at hst) <;> first
                    | (simp only [Option.some.injEq] at hst; subst hst; rfl)
                    | cases hst
                obtain ⟨_, w', hr, hp, hs'⟩ := st_rel (P := P) hS (by rw [hk1] at hF; exact hF) hst hbb g2 g2.scalarR
                have ho' := hof.resolve_left (by omega)
                refine ⟨w', ι, hp, hs', _, ?_, .int .i64 _⟩
                simp only [execOp, ho, resolve, Sem.run_bind, Sem.run_pure, Result.andThen_ok, invoke, builtin, hm2, hg]
                rw [hgo _ _ w' rfl (by simp only; rw [ho']; exact hr)]; rfl
      · cases h
    · cases h
  · cases h
theorem ops_clear {t el n : Nat} {z : List Value} {x : Operand} (hx : opdOk x = true) (hzc : constsOk z = true) (hS : SRel P ι s w) {v : Option Value} (h : rClear fl s z (ev e x) = some (v, s')) (hF : Fresh ι s s'.k) {o : Oper} {c : Call} (ho : o.op = .call c) (hc : c.callee = .builtin .clear) (ha : c.args.toList = [x]) (hty : c.argTypes.toList = [t])
    (hu : under P.toTables t = some (.slice el)) (hz : tzero P.toTables el = some z) (hn0 : 0 < z.length) : OpOK P fl ι s w v s' ((execOp a.eval o).run P w) := by
  obtain ⟨cc, ar, ty⟩ := c
  simp only at hc ha hty; subst hc
  obtain rfl : ar = #[x] := by cases ar; simp_all
  obtain rfl : ty = #[t] := by cases ty; simp_all
  have hm2 : (#[x] : Array Operand).map a.eval = #[a.eval x] := by simp
  have e0 : (#[t] : Array Nat)[0]? = some t := rfl
  unfold rClear at h
  split at h
  · rename_i l cp h1
    simp only [Option.some.injEq, Prod.mk.injEq] at h; obtain ⟨rfl, rfl⟩ := h
    have rx := ev_rel hE hx h1
    generalize hg : a.eval x = g at rx
    cases rx with
    | sliceNil l c hlc =>
      refine ⟨w, ι, Post.refl hF, hS, _, ?_, .tuple .nil⟩
      have e2 : (#[Value.slice none l cp] : Array Value)[0]? = some (.slice none l cp) := rfl
      simp only [execOp, ho, resolve, Sem.run_bind, Sem.run_pure, Result.andThen_ok, invoke, builtin, hm2, hg, Builtin.clear_, e0, e2, under_run hu]
  · rename_i p m cp h1
    have rx := ev_rel hE hx h1
    generalize hg : a.eval x = g at rx
    cases rx with
    | slice hbb hof hcc2 hlc hsn =>
      rename_i b off o' sp cap' R
      have e2 : (#[Value.slice (some ⟨R.r, o', none⟩) m cap'] : Array Value)[0]? = some (.slice (some ⟨R.r, o', none⟩) m cap') := rfl
      split at h
      · rename_i hm0
        subst hm0
        simp only [Option.some.injEq, Prod.mk.injEq] at h; obtain ⟨rfl, rfl⟩ := h
        refine ⟨w, ι, Post.refl hF, hS, _, ?_, .tuple .nil⟩
        simp only [execOp, ho, resolve, Sem.run_bind, Sem.run_pure, Result.andThen_ok, invoke, builtin, hm2, hg, Builtin.clear_, e0, e2, under_run hu]
      · rename_i hm0
        cases hst : s.st fl b off (rep z m) with
        | none => simp [hst] at h
        | some s1 =>
          simp only [hst, Option.some.injEq, Prod.mk.injEq] at h; obtain ⟨rfl, rfl⟩ := h
          have hk1 : s1.k = s.k := by
            unfold St.st at hst
            (repeat' split at hst) <;> first
              | (simp only [Option.some.injEq] at hst; subst hst; rfl)
              | cases hst
          obtain ⟨zv, k1, k2⟩ := tzero_run (P := P) hz w
          have hfull := rep_full z m hn0
          have hzl : (Builtin.zeroCells zv.cells m).toList = rep z m := by
            rw [← hfull, k2]; simp only [Builtin.zeroCells, List.size_toArray]
          have hnew : VRels ι (rep z m) (Builtin.zeroCells zv.cells m).toList := by rw [hzl]; exact VRels.const ι _ (constsOk_rep hzc _)
          obtain ⟨_, w', hr, hp, hs'⟩ := st_rel (P := P) hS (by rw [hk1] at hF; exact hF) hst hbb hnew hnew.scalarR
          have ho' := hof.resolve_left (by omega)
          refine ⟨w', ι, hp, hs', _, ?_, .tuple .nil⟩
          obtain ⟨m', rfl⟩ : ∃ m', m = m' + 1 := ⟨m - 1, by omega⟩
          simp only [execOp, ho, resolve, Sem.run_bind, Sem.run_pure, Result.andThen_ok, invoke, builtin, hm2, hg, Builtin.clear_, e0, e2, under_run hu, k1]
          rw [ho'] at *
          simp [hr]
  · cases h
theorem ops_makeSlice {t el n b : Nat} {z : List Value} {x y : Operand} (hok : opdOk x = true ∧ opdOk y = true) (hzc : constsOk z = true) (hS : SRel P ι s w) {v : Option Value} (h : rMakeSlice s n b z (ev e x) (ev e y) = some (v, s')) (hF : Fresh ι s s'.k) (hfl : fl ≤ s.k) {o : Oper} (ho : o.op = .makeSlice t x y)
    (hu : under P.toTables t = some (.slice el)) (hn : tsize P.toTables el = some n) (hb : tbytes P.toTables el = some b) (hz : tzero P.toTables el = some z) (hzl : z.length = n) (hn0 : 0 < n) : OpOK P fl ι s w v s' ((execOp a.eval o).run P w) := by
  unfold rMakeSlice at h
  split at h
  · rename_i l c h1 h2
    split at h
    · rename_i hc
      obtain ⟨hl0, hlc, hcm, hbm⟩ := hc
      simp only [Option.some.injEq, Prod.mk.injEq] at h; obtain ⟨rfl, rfl⟩ := h
      have rx := (ev_rel hE hok.1 h1).int_inv
      have ry := (ev_rel hE hok.2 h2).int_inv
      obtain ⟨i, hi, hib⟩ := tbytes_run (P := P) hb w
      obtain ⟨zv, k1, k2⟩ := tzero_run (P := P) hz w
      have hfull := rep_full z c.toNat (by omega)
      rw [hzl] at hfull
      have hwl : IntKind.i64.wrap l = l := by rw [← wrapI_eq]; simp only [wrapI]; rw [if_pos (by omega)]
      have hwc : IntKind.i64.wrap c = c := by rw [← wrapI_eq]; simp only [wrapI]; rw [if_pos (by omega)]
      have hmb : (i.bytes : Int) * c ≤ 65536 * 1073741824 := by
        have h1 : (i.bytes : Int) * c ≤ 65536 * c := Int.mul_le_mul_of_nonneg_right (by rw [hib]; omega) (by omega)
        have h2 : (65536 : Int) * c ≤ 65536 * 1073741824 := Int.mul_le_mul_of_nonneg_left (by omega) (by omega)
        omega
      have hcells : ∀ zc : Array Value, (c.toNat * n = 0 → zc = #[]) → (c.toNat * n ≠ 0 → zc = z.toArray) → ((Array.range (c.toNat * n)).map (fun i => zc[i % zc.size]!)).toList = rep z c.toNat := by
        intro zc q1 q2
        by_cases h0 : c.toNat * n = 0
        · have e0 : Array.range 0 = #[] := by apply Array.ext'; simp
          rw [← hfull, h0, e0]; simp
        · rw [q2 h0]; exact hfull
      obtain ⟨rc, hrc⟩ : ∃ rc : Array Value, rc.toList = rep z c.toNat := ⟨⟨rep z c.toNat⟩, rfl⟩
      obtain ⟨p1, p2, p3⟩ := row_new (P := P) (w := w) (fl := fl) hS hF hfl false el (c := rep z c.toNat) (c' := rc) (by rw [hrc, List.take_of_length_le (Nat.le_refl _)]; exact VRels.const ι _ (constsOk_rep hzc _)) (by rw [← hrc]; simp)
      refine ⟨_, _, p1, p2, .slice (some ⟨w.heap.size, 0, none⟩) l.toNat c.toNat, ?_, sl_new (R := ⟨w.heap.size, 0, rc.size⟩) p3 rfl (by omega)⟩
      simp only [execOp, ho, Instr.makeSlice, Sem.run_bind, under_run hu, Result.andThen_ok, rx, ry, asInt, asIntOf, Sem.run_pure, hi, hwl, hwc]
      rw [if_neg (by simp; omega)]
      simp only [Sem.run_bind, Sem.run_pure, Result.andThen_ok, askRoom_run, tsize_run hn]
      by_cases h0 : c.toNat * n = 0
      · have := hcells #[] (fun _ => rfl) (fun h => absurd h0 h)
        rw [if_pos h0]
        simp only [Sem.run_pure, Result.andThen_ok, Sem.run_bind, newRow_run]
        rw [show (Array.range (c.toNat * n)).map (fun i => (#[] : Array Value)[i % (#[] : Array Value).size]!) = rc from Array.ext' (by rw [this, hrc])]
      · have := hcells z.toArray (fun h => absurd h h0) (fun _ => rfl)
        rw [if_neg h0]
        simp only [Sem.run_pure, Result.andThen_ok, Sem.run_bind, k1, k2, newRow_run]
        rw [show (Array.range (c.toNat * n)).map (fun i => z.toArray[i % z.toArray.size]!) = rc from Array.ext' (by rw [this, hrc])]
    · cases h
  · cases h
end
end Go.Ev
/- Loads, stores, arithmetic, conversions, maps. -/
namespace Go.Ev
variable {P : Program} {w : World} {ι : Inj} {s s' : St} {fl : Nat}

/-! ### Maps -/
theorem checkKey_run {kt kd : Nat} (hk : leafK P.toTables kt = some kd) (em : Bool) (k : Value) (w : World) : ∀ n, (Instr.checkKey em (n + 1) kt k).run P w = .ok () w := by
  intro n
  unfold leafK at hk
  cases hu : under P.toTables kt with
  | none => simp [hu] at hk
  | some d =>
    unfold Instr.checkKey
    simp only [Sem.run_bind, under_run hu, Result.andThen_ok]
    rw [hu] at hk
    cases d <;> simp only [Option.some.injEq] at hk <;> first
      | (cases hk; done)
      | simp
theorem sameNow_of {kt kd : Nat} (hk : leafK P.toTables kt = some kd) : ∃ d, under P.toTables kt = some d ∧ ∀ a b r, eqLeaf kd a b = some r → Instr.sameNow d a b = some r := by
  unfold leafK at hk
  cases hu : under P.toTables kt with
  | none => simp [hu] at hk
  | some d =>
    refine ⟨d, rfl, fun a b r h => ?_⟩
    rw [hu] at hk
    unfold eqLeaf at h
    cases d <;> simp only [Option.some.injEq] at hk <;> first
      | (cases hk; done)
      | (subst hk
         split at h <;> first
           | (rename_i e _ _; cases e; done)
           | (cases h; done)
           | (simp_all [Instr.sameNow, beq_bytes]; done)
           | skip)
theorem sameBits_of {kd : Nat} {a b : Value} (h : eqLeaf kd a b = some true) (n : Nat) : Instr.sameBits (n + 1) b a = true := by
  unfold eqLeaf at h
  split at h
  · simp only [Option.some.injEq] at h; simp [Instr.sameBits]; exact (by simpa using h : _ = _).symm
  · split at h
    · simp only [Option.some.injEq] at h; rename_i e; subst e; simp [Instr.sameBits]; exact (by simpa using h : _ = _).symm
    · cases h
  · simp only [Option.some.injEq] at h; simp only [Instr.sameBits, beq_bytes]; simp at h ⊢; exact h.symm
  · cases h
theorem find_run {d : TypeDesc} {kd : Nat} (hd : ∀ a b r, eqLeaf kd a b = some r → Instr.sameNow d a b = some r) {k k' : Value} (hk : VRel ι k k') : ∀ {es : List (Value × Value)} {es' : List MapEntry} {r : Option Value} (i : Nat), MRel ι es es' → lookupE kd k es = some r →
    ∃ r', Instr.findNow d k' es' i = some r' ∧ ORelV ι r (r'.map (·.2))
  | [], _, r, i, .nil, h => by
    simp only [lookupE, Option.some.injEq] at h; subst h
    exact ⟨none, rfl, .none⟩
  | (j, u) :: es, _, r, i, .cons (k' := j') (v' := u') h1 h2 t, h => by
    simp only [lookupE] at h
    cases he : eqLeaf kd k j with
    | none => simp [he] at h
    | some b =>
      obtain ⟨e1, e2⟩ := eqLeaf_vals he hk h1
      have hs := hd _ _ _ he
      cases b with
      | true =>
        simp only [he, Option.some.injEq] at h; subst h
        exact ⟨some (i, u'), by simp [Instr.findNow, e1, e2, hs], .some h2⟩
      | false =>
        simp only [he] at h
        obtain ⟨r', g1, g2⟩ := find_run hd hk (i + 1) t h
        exact ⟨r', by simp [Instr.findNow, e1, e2, hs]; rw [← e1]; exact g1, g2⟩
theorem upd_run {d : TypeDesc} {kd : Nat} (hd : ∀ a b r, eqLeaf kd a b = some r → Instr.sameNow d a b = some r) {k k' v v' : Value} (hk : VRel ι k k') (hv : VRel ι v v') : ∀ {es es1 : List (Value × Value)} {es' : List MapEntry} (i : Nat), MRel ι es es' → updateE kd k v es = some es1 →
    (∃ j x e', Instr.findNow d k' es' i = some (some (i + j, x)) ∧ es'[j]? = some e' ∧ (∀ n, Instr.sameBits (n + 1) e'.key k' = true) ∧ MRel ι es1 (es'.modify j fun e => { e with key := k', val := v' })) ∨
    (Instr.findNow d k' es' i = some none ∧ ∀ b, MRel ι es1 (es' ++ [⟨k', v', b⟩]))
  | [], es1, _, i, .nil, h => by
    simp only [updateE, Option.some.injEq] at h; subst h
    exact .inr ⟨rfl, fun b => .cons hk hv .nil⟩
  | (j, u) :: es, es1, _, i, .cons (k' := j') (v' := u') (b := b0) (l' := l') h1 h2 t, h => by
    simp only [updateE] at h
    cases he : eqLeaf kd k j with
    | none => simp [he] at h
    | some b =>
      obtain ⟨e1, e2⟩ := eqLeaf_vals he hk h1
      have hs := hd _ _ _ he
      cases b with
      | true =>
        simp only [he, Option.some.injEq] at h; subst h
        refine .inl ⟨0, u', ⟨j', u', b0⟩, by simp [Instr.findNow, e1, e2, hs], rfl, fun n => ?_, .cons hk hv t⟩
        simp only [e1, e2]; exact sameBits_of he n
      | false =>
        simp only [he] at h
        cases hu : updateE kd k v es with
        | none => simp [hu] at h
        | some l1 =>
          simp only [hu, Option.some.injEq] at h; subst h
          rcases upd_run hd hk hv (i + 1) t hu with ⟨m, x, e', g1, g2, g3, g4⟩ | ⟨g1, g2⟩
          · refine .inl ⟨m + 1, x, e', ?_, g2, g3, .cons h1 h2 g4⟩
            simp only [Instr.findNow, e2, show Instr.sameNow d k' j = some false by rw [e1]; exact hs]
            rw [g1]; simp; omega
          · refine .inr ⟨?_, fun b => .cons h1 h2 (g2 b)⟩
            simp only [Instr.findNow, e2, show Instr.sameNow d k' j = some false by rw [e1]; exact hs]
            exact g1
theorem findKey_run {kt : Nat} {d : TypeDesc} (hu : under P.toTables kt = some d) {k : Value} {l : List MapEntry} {r : Option (Nat × Value)} (h : Instr.findNow d k l 0 = some r) (w : World) : (Instr.findKey kt k l).run P w = .ok r w := by
  simp [Instr.findKey, under_run hu, h]
theorem live_map (hS : SRel P ι s w) {b : Nat} {es : List (Value × Value)} (h : s.get b = some (.map es)) {R : Real} (hR : ι b = some R) :
    ∃ es' cl, w.heap[R.r]? = some (.map es' cl) ∧ MRel ι es es'.toList := by
  unfold St.get at h
  cases hb : s.hm.get b with
  | some o => simp only [hb, Option.some.injEq] at h; subst h; exact hS.hm b _ R hb hR
  | none => simp only [hb] at h; exact hS.hi b _ R h hR
theorem bytesOf_ints : ∀ {l : List Value} {b : List UInt8}, bytesOf l = some b → ∃ ns : List Int, l = ns.map (Value.int .u8) ∧ b = ns.map fun n => UInt8.ofNat n.toNat
  | [], b, h => by simp only [bytesOf, Option.some.injEq] at h; subst h; exact ⟨[], rfl, rfl⟩
  | v :: l, b, h => by
    unfold bytesOf at h
    split at h
    · rename_i hh; cases hh
    · rename_i n r e
      injection e with e1 e2; subst e2; subst e1
      cases hr : bytesOf l with
      | none => simp [hr] at h
      | some l' =>
        simp only [hr, Option.some.injEq] at h; subst h
        obtain ⟨ns, g1, g2⟩ := bytesOf_ints hr
        exact ⟨n :: ns, by simp [g1], by simp [g2]⟩
    · cases h
theorem fold_bytes (ns : List Int) : ∀ (b : ByteArray), ns.foldl (fun r n => r.push (UInt8.ofNat n.toNat)) b = ⟨b.data ++ (ns.map fun n => UInt8.ofNat n.toNat).toArray⟩ := by
  induction ns with
  | nil => intro b; simp
  | cons n ns ih => intro b; rw [List.foldl_cons, ih]; simp [ByteArray.push]
theorem ints_rel {ns : List Int} : ∀ {l' : List Value}, VRels ι (ns.map (Value.int .u8)) l' → l' = ns.map (Value.int .u8) := by
  induction ns with
  | nil => intro l' h; cases h; rfl
  | cons n ns ih => intro l' h; cases h with
    | cons h t => cases h; rw [ih t]; rfl
/-- An operation that leaves the world as it is. -/
def OpSame (P : Program) (ι : Inj) (s : St) (w : World) (v : Option Value) (s' : St) (r : Result Next) : Prop := s' = s ∧ ∃ u u', v = some u ∧ r = .ok (.value u') w ∧ VRel ι u u'
theorem OpSame.ok {v : Option Value} {r : Result Next} (h : OpSame P ι s w v s' r) (hS : SRel P ι s w) (hF : Fresh ι s s'.k) : OpOK P fl ι s w v s' r := by
  obtain ⟨rfl, u, u', rfl, h1, h2⟩ := h
  exact ⟨w, ι, Post.refl hF, hS, u', h1, h2⟩
theorem OpSame.gives {x : Sem Value} {v : Value} (h : Gives P ι w x v) : OpSame P ι s w (some v) s ((x >>= fun a => pure (Next.value a)).run P w) := by
  obtain ⟨v', h1, h2⟩ := h
  exact ⟨rfl, v, v', rfl, by simp [h1], h2⟩
section
variable {e : Env} {a : Act} (hE : ERel ι e a.tmps)
 include hE
theorem ops_load0 {t : Nat} {n : Option Nat} {x : Operand} (hx : opdOk x = true) (hS : SRel P ι s w) {v : Option Value} (h : rLoad s n (ev e x) = some (v, s')) {o : Oper} (ht : tagg P.toTables t = some n) (ho : o.op = .load t x) : OpSame P ι s w v s' ((execOp a.eval o).run P w) := by
  have hv : ∃ u, v = some u := by
    unfold rLoad at h
    (repeat' split at h) <;> first
      | (cases h; done)
      | (obtain ⟨_, u, _, hu⟩ := some1_inv h; exact ⟨u, hu⟩)
  obtain ⟨u, rfl⟩ := hv
  obtain ⟨rfl, g⟩ := load_gives (P := P) ht hS h (v' := a.eval x) (fun u hu => ev_rel hE hx hu)
  simp only [execOp, ho]
  exact OpSame.gives g
theorem ops_load {t : Nat} {n : Option Nat} {x : Operand} (hx : opdOk x = true) (hS : SRel P ι s w) {v : Option Value} (h : rLoad s n (ev e x) = some (v, s')) (hF : Fresh ι s s'.k) {o : Oper} (ht : tagg P.toTables t = some n) (ho : o.op = .load t x) : OpOK P fl ι s w v s' ((execOp a.eval o).run P w) := by
  exact OpSame.ok (ops_load0 hE hx hS h ht ho) hS hF
theorem ops_store {t n : Nat} {x y : Operand} {fz : Bool} (hok : opdOk x = true ∧ opdOk y = true) (hS : SRel P ι s w) {v : Option Value} (h : rStore fl s n fz (ev e x) (ev e y) = some (v, s')) (hF : Fresh ι s s'.k) {o : Oper} (ht : tsize P.toTables t = some n) (ho : o.op = .store t x y) : OpOK P fl ι s w v s' ((execOp a.eval o).run P w) := by
  obtain ⟨rfl, w', g1, g2, g3⟩ := store_ok (P := P) ht hS h hF (a' := a.eval x) (x' := a.eval y) (fun u hu => ev_rel hE hok.1 hu) (fun u hu => ev_rel hE hok.2 hu)
  simp only [execOp, ho]
  exact OpOK.unit ⟨w', ι, g1, g2, g3⟩
theorem ops_bin0 {t : Nat} {op : BinOp} {x y : Operand} {z : TypeId} (hok : opdOk x = true ∧ opdOk y = true) (hS : SRel P ι s w) {v : Option Value} (h : rBin s op (eqk P t) (ev e x) (ev e y) = some (v, s')) {o : Oper} (ho : o.op = .binOp op t x y z) : OpSame P ι s w v s' ((execOp a.eval o).run P w) := by
  unfold rBin at h
  split at h
  · rename_i u1 u2 h1 h2
    obtain ⟨rfl, u, hu, rfl⟩ := some1_inv h
    simp only [execOp, ho]
    exact OpSame.gives (bin_gives hS hu (ev_rel hE hok.1 h1) (ev_rel hE hok.2 h2) x y)
  · cases h
theorem ops_bin {t : Nat} {op : BinOp} {x y : Operand} {z : TypeId} (hok : opdOk x = true ∧ opdOk y = true) (hS : SRel P ι s w) {v : Option Value} (h : rBin s op (eqk P t) (ev e x) (ev e y) = some (v, s')) (hF : Fresh ι s s'.k) {o : Oper} (ho : o.op = .binOp op t x y z) : OpOK P fl ι s w v s' ((execOp a.eval o).run P w) := by
  exact OpSame.ok (ops_bin0 hE hok hS h ho) hS hF
theorem ops_un0 {t : Nat} {op : UnOp} {x : Operand} (hok : opdOk x = true) (hS : SRel P ι s w) {v : Option Value} (h : rUn s op (ev e x) = some (v, s')) {o : Oper} (ho : o.op = .unOp op t x) : OpSame P ι s w v s' ((execOp a.eval o).run P w) := by
  unfold rUn at h
  split at h
  · rename_i u1 h1
    obtain ⟨rfl, u, hu, rfl⟩ := some1_inv h
    simp only [execOp, ho]
    exact OpSame.gives (unOp_run hu (ev_rel hE hok h1) w)
  · cases h
theorem ops_un {t : Nat} {op : UnOp} {x : Operand} (hok : opdOk x = true) (hS : SRel P ι s w) {v : Option Value} (h : rUn s op (ev e x) = some (v, s')) (hF : Fresh ι s s'.k) {o : Oper} (ho : o.op = .unOp op t x) : OpOK P fl ι s w v s' ((execOp a.eval o).run P w) := by
  exact OpSame.ok (ops_un0 hE hok hS h ho) hS hF
theorem ops_conv0 {m : Bool} {c d : Nat} {k : ConvK} {x : Operand} (hx : opdOk x = true) (hS : SRel P ι s w) {v : Option Value} (h : rConv s k (ev e x) = some (v, s')) {o : Oper} (ho : o.op = .convert c d x) (hc : compOp P m o = some (.conv k x)) : OpSame P ι s w v s' ((execOp a.eval o).run P w) := by
  unfold rConv at h
  split at h
  · rename_i k j n hv
    simp only [Option.some.injEq, Prod.mk.injEq] at h; obtain ⟨rfl, rfl⟩ := h
    have hr := (ev_rel hE hx hv).int_inv
    simp only [compOp, ho] at hc
    (repeat' split at hc) <;> simp only [Option.some.injEq, LOp.conv.injEq, ConvK.int.injEq, reduceCtorEq, and_true, false_and] at hc
    rename_i k1 k2 hu1 hu2
    subst hc
    refine ⟨rfl, _, .int k2 (wrapI k2 n), rfl, ?_, .int _ _⟩
    simp [execOp, ho, convert, under_run hu1, under_run hu2, hr, Conv.intToInt, wrapI_eq]
  · rename_i b hv
    simp only [Option.some.injEq, Prod.mk.injEq] at h; obtain ⟨rfl, rfl⟩ := h
    have hr := (ev_rel hE hx hv).str_inv
    simp only [compOp, ho] at hc
    (repeat' split at hc) <;> simp only [Option.some.injEq, LOp.conv.injEq, reduceCtorEq, and_true, false_and] at hc
    rename_i hu1 hu2
    refine ⟨rfl, _, .string b, rfl, ?_, .string _⟩
    simp [execOp, ho, convert, under_run hu1, under_run hu2, hr]
  · rename_i p n cp hv
    cases hl : elemCells s 1 (.slice p n cp) n with
    | none => simp [hl] at h
    | some l =>
      simp only [hl] at h
      cases hb : bytesOf l with
      | none => simp [hb] at h
      | some b =>
        simp only [hb, Option.some.injEq, Prod.mk.injEq] at h; obtain ⟨rfl, rfl⟩ := h
        have hr := ev_rel hE hx hv
        obtain ⟨ns, g1, g2⟩ := bytesOf_ints hb
        obtain ⟨c', q1, q2, q3⟩ := elem_run (P := P) hS hl hr
        subst g1
        have hc' := ints_rel q2
        simp only [compOp, ho] at hc
        (repeat' split at hc) <;> simp only [Option.some.injEq, LOp.conv.injEq, reduceCtorEq, and_true, false_and] at hc
        rename_i el hu1 hu2 _ hu3
        refine ⟨rfl, _, .string ⟨b.toArray⟩, rfl, ?_, .string _⟩
        generalize hg : a.eval x = g at hr q1
        cases hr with
        | sliceNil =>
          have : ns = [] := by
            simp only [elemCells] at hl
            split at hl
            · simp only [Option.some.injEq] at hl; exact List.map_eq_nil_iff.1 hl.symm
            · split at hl <;> cases hl
          subst this
          simp only [List.map_nil] at g2
          subst g2
          simp only [execOp, ho, hg, Sem.run_bind, run_convert_bytes_string w c d el none n cp (under_eq hu1) (under_eq hu3) (under_eq hu2)]
          rfl
        | slice h1 h2 h3 h4 h5 =>
          rename_i bk of of' sp cap' R
          simp only [execOp, ho, hg, Sem.run_bind, run_convert_bytes_string w c d el _ n cap' (under_eq hu1) (under_eq hu3) (under_eq hu2)]
          have hlo : (loadCells ⟨R.r, of', none⟩ n).run P w = .ok (ns.map (Value.int .u8)).toArray w := by
            have : c' = (ns.map (Value.int .u8)).toArray := by rw [← hc']
            rw [← this]
            simpa [Builtin.firstCells] using q1
          rw [run_bytesToString w _ n cap' ns hlo]
          simp only [fold_bytes, g2, Result.andThen_ok, Sem.run_pure]
          congr 3
          simp
  · cases h
theorem ops_conv {m : Bool} {c d : Nat} {k : ConvK} {x : Operand} (hx : opdOk x = true) (hS : SRel P ι s w) {v : Option Value} (h : rConv s k (ev e x) = some (v, s')) (hF : Fresh ι s s'.k) {o : Oper} (ho : o.op = .convert c d x) (hc : compOp P m o = some (.conv k x)) : OpOK P fl ι s w v s' ((execOp a.eval o).run P w) := by
  exact OpSame.ok (ops_conv0 hE hx hS h ho hc) hS hF
theorem ops_lookup0 {t kt el kd : Nat} {z : Value} {i : TypeInfo} {ok : Bool} {x y : Operand} (hok : opdOk x = true ∧ opdOk y = true ∧ constOk z = true) (hS : SRel P ι s w) {v : Option Value} (h : rLookup s kd z ok (ev e x) (ev e y) = some (v, s')) {o : Oper} (ho : o.op = .lookup t x y ok)
    (hu : under P.toTables t = some (.map kt el)) (hk : leafK P.toTables kt = some kd) (hi : P.types[el]? = some i) (hz : i.zero = some z) : OpSame P ι s w v s' ((execOp a.eval o).run P w) := by
  unfold rLookup at h
  split at h
  · rename_i m k hm hk'
    cases hes : mapOf s m with
    | none => simp [hes] at h
    | some es =>
      simp only [hes] at h
      have hrm := ev_rel hE hok.1 hm
      have hrk := ev_rel hE hok.2.1 hk'
      obtain ⟨d, hd1, hd2⟩ := sameNow_of hk
      have hzr : (zeroValue el).run P w = .ok z w := by simp [zeroValue, info_run hi, hz]
      have chk : ∀ em, (Instr.checkKey em 10000 kt (a.eval y)).run P w = .ok () w := fun em => checkKey_run hk em _ w 9999
      cases hlk : lookupE kd k es with
      | none => simp [hlk] at h
      | some r =>
        have fin : ∀ (es' : Array MapEntry), MRel ι es es'.toList → ∃ r', (Instr.findKey kt (a.eval y) es'.toList).run P w = .ok r' w ∧ ORelV ι r (r'.map (·.2)) := by
          intro es' hr
          obtain ⟨r', g1, g2⟩ := find_run hd2 hrk 0 hr hlk
          exact ⟨r', findKey_run (P := P) hd1 g1 w, g2⟩
        have hs : s' = s := by
          rw [hlk] at h
          cases r <;> simp only [Option.some.injEq, Prod.mk.injEq] at h <;> exact h.2.symm
        subst hs
        have hgo : ∀ (es' : Array MapEntry), MRel ι es es'.toList → ((a.eval x = .map none ∧ es' = #[]) ∨ ∃ r cl, a.eval x = .map (some r) ∧ w.heap[r]? = some (.map es' cl)) → ∃ u, v = some u ∧ ∃ u', (Instr.lookup t (a.eval x) (a.eval y) ok).run P w = .ok u' w ∧ VRel ι u u' := by
          intro es' hr hf
          obtain ⟨r', g1, g2⟩ := fin es' hr
          have hrun : ∀ (F : Sem Value), ((match r' with | some (_, v) => pure (if ok = true then Value.tuple #[v, .bool true] else v) | none => (do let z ← zeroValue el; pure (if ok = true then Value.tuple #[z, .bool false] else z)) : Sem Value).run P w = F.run P w) → (Instr.lookup t (a.eval x) (a.eval y) ok).run P w = F.run P w := by
            intro F hF'
            rw [← hF']
            rcases hf with ⟨hx, rfl⟩ | ⟨r, cl, hx, hb⟩
            · cases r' <;> simp [Instr.lookup, under_run hu, hx, chk, g1]
            · cases r' <;> simp [Instr.lookup, under_run hu, hx, MapKept.run_getObj_map hb, chk, g1]
          cases r' with
          | none =>
            cases g2
            simp only [hlk, Option.some.injEq, Prod.mk.injEq] at h
            refine ⟨_, h.1.symm, (if ok = true then .tuple #[z, .bool false] else z), (hrun (pure (if ok = true then .tuple #[z, .bool false] else z)) (by simp only [Sem.run_bind, hzr, Result.andThen_ok])).trans (by simp only [Sem.run_pure]), ?_⟩
            cases ok
            · exact VRel.const ι z hok.2.2
            · exact .tuple (.cons (VRel.const ι z hok.2.2) (.cons (.bool _) .nil))
          | some q =>
            obtain ⟨qi, qv⟩ := q
            cases g2
            rename_i u hu'
            simp only [hlk, Option.some.injEq, Prod.mk.injEq] at h
            refine ⟨_, h.1.symm, (if ok = true then .tuple #[qv, .bool true] else qv), (hrun (pure (if ok = true then .tuple #[qv, .bool true] else qv)) rfl).trans (by simp only [Sem.run_pure]), ?_⟩
            cases ok
            · exact hu'
            · exact .tuple (.cons hu' (.cons (.bool _) .nil))
        have huse : (∃ u, v = some u ∧ ∃ u', (Instr.lookup t (a.eval x) (a.eval y) ok).run P w = .ok u' w ∧ VRel ι u u') → OpSame P ι s' w v s' ((execOp a.eval o).run P w) := by
          rintro ⟨u, rfl, u', g1, g2⟩
          simp only [execOp, ho]
          exact OpSame.gives ⟨u', g1, g2⟩
        apply huse
        generalize hg : a.eval x = g at hrm hgo
        cases hrm with
        | mapNil =>
          simp only [mapOf, Option.some.injEq] at hes; subst hes
          exact hgo #[] .nil (.inl ⟨rfl, rfl⟩)
        | map hb =>
          rename_i bq Rq
          have : s'.get bq = some (.map es) := by
            simp only [mapOf] at hes
            split at hes
            · rename_i q; simp only [Option.some.injEq] at hes; subst hes; exact q
            · cases hes
          obtain ⟨es', cl, q1, q2⟩ := live_map hS this hb
          exact hgo es' q2 (.inr ⟨_, cl, rfl, q1⟩)
  · cases h
theorem ops_lookup {t kt el kd : Nat} {z : Value} {i : TypeInfo} {ok : Bool} {x y : Operand} (hok : opdOk x = true ∧ opdOk y = true ∧ constOk z = true) (hS : SRel P ι s w) {v : Option Value} (h : rLookup s kd z ok (ev e x) (ev e y) = some (v, s')) (hF : Fresh ι s s'.k) {o : Oper} (ho : o.op = .lookup t x y ok)
    (hu : under P.toTables t = some (.map kt el)) (hk : leafK P.toTables kt = some kd) (hi : P.types[el]? = some i) (hz : i.zero = some z) : OpOK P fl ι s w v s' ((execOp a.eval o).run P w) := by
  exact OpSame.ok (ops_lookup0 hE hok hS h ho hu hk hi hz) hS hF
theorem ops_mapUpdate {t kt el kd : Nat} {x y z : Operand} (hok : opdOk x = true ∧ opdOk y = true ∧ opdOk z = true) (hS : SRel P ι s w) {v : Option Value} (h : rMapUpdate fl s kd (ev e x) (ev e y) (ev e z) = some (v, s')) (hF : Fresh ι s s'.k) {o : Oper} (ho : o.op = .mapUpdate t x y z)
    (hu : under P.toTables t = some (.map kt el)) (hk : leafK P.toTables kt = some kd) : OpOK P fl ι s w v s' ((execOp a.eval o).run P w) := by
  unfold rMapUpdate at h
  split at h
  · rename_i r k u hm hk' hv'
    split at h
    · rename_i es hes
      split at h
      · rename_i es1 hup
        split at h
        · rename_i hfl
          simp only [Option.some.injEq, Prod.mk.injEq] at h; obtain ⟨rfl, rfl⟩ := h
          have hrm := ev_rel hE hok.1 hm
          have hrk := ev_rel hE hok.2.1 hk'
          have hrv := ev_rel hE hok.2.2 hv'
          generalize hg : a.eval x = g at hrm
          cases hrm with
          | map hb =>
            rename_i R
            obtain ⟨d, hd1, hd2⟩ := sameNow_of hk
            obtain ⟨es', cl, q1, q2⟩ := hS.hm r _ R hes hb
            have chk : ∀ em, (Instr.checkKey em 10000 kt (a.eval y)).run P w = .ok () w := fun em => checkKey_run hk em _ w 9999
            simp only [execOp, ho]
            have hput : ∀ ob, (setObj R.r ob).run P w = .ok () (w.putObj R.r ob) := fun ob => by rw [MapKept.run_setObj_map ob q1]; rfl
            rcases upd_run hd2 hrk hrv 0 q2 hup with ⟨j, xx, e', g1, g2, g3, g4⟩ | ⟨g1, g2⟩
            · have hst : (Instr.keyThatStays (((es'[0 + j]?).map (·.key)).getD (a.eval y)) (a.eval y)).run P w = .ok (a.eval y) w := by
                have : es'[j]? = some e' := by simpa using g2
                have hg3 := g3 9999
                simp only [Instr.keyThatStays, Nat.zero_add, this, Option.map_some, Option.getD_some]
                rw [if_pos hg3]; simp
              obtain ⟨p1, p2⟩ := upd_rel (P := P) (fl := fl) hS hF hes hfl hb (some (.map es1)) (.map (es'.modify j fun e => { e with key := a.eval y, val := a.eval z }) cl) (by
                intro ob hob; cases hob
                exact ⟨_, _, rfl, by simpa using g4⟩)
              apply OpOK.unit ⟨_, ι, ?_, p1, p2⟩
              simp only [Instr.mapUpdate, hg, Sem.run_bind, under_run hu, Result.andThen_ok, MapKept.run_getObj_map q1, chk, findKey_run (P := P) hd1 g1 w, hst]
              simpa using hput _
            · obtain ⟨p1, p2⟩ := upd_rel (P := P) (fl := fl) hS hF hes hfl hb (some (.map es1)) (.map (es'.push { key := a.eval y, val := a.eval z, born := cl }) (cl + 1)) (by
                intro ob hob; cases hob
                exact ⟨_, _, rfl, by simpa using g2 cl⟩)
              apply OpOK.unit ⟨_, ι, ?_, p1, p2⟩
              simp only [Instr.mapUpdate, hg, Sem.run_bind, under_run hu, Result.andThen_ok, MapKept.run_getObj_map q1, chk, findKey_run (P := P) hd1 g1 w]
              exact hput _
        · cases h
      · cases h
    · cases h
  · cases h
end
theorem ops_makeMap (hS : SRel P ι s w) (hF : Fresh ι s (s.k + 1)) (hfl : fl ≤ s.k) {a : Act} {o : Oper} {t : TypeId} (ho : o.op = .makeMap t none) : OpOK P fl ι s w (some (.map (some s.k))) (s.new (.map [])) ((execOp a.eval o).run P w) := by
  have := new_rel (P := P) false (.map []) (.map #[] 0) ⟨w.heap.size, 0, 0⟩ hS hF rfl (fun ι' _ => ⟨#[], 0, rfl, .nil⟩) fl hfl
  obtain ⟨p1, p2⟩ := this
  refine ⟨_, _, p1, p2, .map (some w.heap.size), ?_, VRel.map (R := ⟨w.heap.size, 0, 0⟩) (by simp)⟩
  simp only [execOp, ho, Option.map_none, Sem.run_bind, RowKit.run_makeMap, Result.andThen_ok, Sem.run_pure]
  rfl
end Go.Ev
/- One operation that is no call, all kinds. -/
namespace Go.Ev
variable {P : Program} {w : World} {ι : Inj} {s s' : St} {fl : Nat}
theorem op_sound {e : Env} {a : Act} (hE : ERel ι e a.tmps) {m : Bool} {o : Oper} {lop : LOp} (hc : compOp P m o = some lop) (hok : lopOk lop = true) (hS : SRel P ι s w) {v : Option Value} (h : runOp fl s e lop = some (v, s')) (hF : Fresh ι s s'.k) (hfl : fl ≤ s.k) :
    OpOK P fl ι s w v s' ((execOp a.eval o).run P w) := by
  have hc0 := hc
  unfold compOp at hc
  split at hc
  · -- move
    rename_i x ho
    simp only [Option.some.injEq] at hc; subst hc
    have := ops_mov (P := P) (fl := fl) hE (x := x) (by simpa [lopOk] using hok) hS h hF
    simpa [execOp, ho] using this
  · rename_i x ho
    simp only [Option.some.injEq] at hc; subst hc
    have := ops_mov (P := P) (fl := fl) hE (x := x) (by simpa [lopOk] using hok) hS h hF
    simpa [execOp, ho] using this
  · rename_i x ho
    simp only [Option.some.injEq] at hc; subst hc
    exact ops_nil hE (by simpa [lopOk] using hok) hS h hF ho
  · rename_i c x y ho
    simp only [Option.some.injEq] at hc; subst hc
    simp [lopOk] at hok
    exact ops_pick hE ⟨hok.1.1, hok.1.2, hok.2⟩ hS h hF ho
  · -- alloc
    rename_i el ho
    split at hc
    · rename_i n z hn hz
      split at hc
      · rename_i hzl
        simp only [Option.some.injEq] at hc; subst hc
        simp only [runOp, Option.some.injEq, Prod.mk.injEq] at h; obtain ⟨rfl, rfl⟩ := h
        exact ops_alloc hn hz hzl (by simpa [lopOk] using hok) hS hF hfl ho
      · cases hc
    · cases hc
  · -- box
    rename_i el x ho
    simp only [Option.map_eq_some_iff] at hc; obtain ⟨n, hn, rfl⟩ := hc
    exact ops_box hE (by simpa [lopOk] using hok) hS h hF hfl ho
  · -- build
    rename_i t ps ho
    have : ∃ z l, lop = .build z l := by
      repeat' split at hc
      all_goals first
        | (cases hc; done)
        | (simp only [Option.map_eq_some_iff] at hc; obtain ⟨l, _, rfl⟩ := hc; exact ⟨_, _, rfl⟩)
    obtain ⟨z, l, rfl⟩ := this
    exact ops_build hE ho hc0 (by simpa [lopOk] using hok) hS h hF
  · -- buildSlice
    rename_i t len ps ho
    have : ∃ n l0 z l i, lop = .buildSlice n l0 z l i := by
      repeat' split at hc
      all_goals first
        | (cases hc; done)
        | (simp only [Option.map_eq_some_iff] at hc; obtain ⟨l, _, rfl⟩ := hc; exact ⟨_, _, _, _, _, rfl⟩)
    obtain ⟨n, l0, z, l, i, rfl⟩ := this
    exact ops_buildSlice hE ho hc0 (by simpa [lopOk] using hok) hS h hF hfl
  · -- load
    rename_i t x ho
    simp only [Option.map_eq_some_iff] at hc; obtain ⟨n, hn, rfl⟩ := hc
    exact ops_load hE (by simpa [lopOk] using hok) hS h hF hn ho
  · -- store
    rename_i t x y ho
    simp only [Option.map_eq_some_iff] at hc; obtain ⟨n, hn, rfl⟩ := hc
    simp [lopOk] at hok
    exact ops_store hE hok hS h hF hn ho
  · rename_i op t x y z ho
    simp only [Option.some.injEq] at hc; subst hc
    simp [lopOk] at hok
    exact ops_bin hE hok hS h hF ho
  · rename_i op t x ho
    simp only [Option.some.injEq] at hc; subst hc
    simp [lopOk] at hok
    exact ops_un hE hok hS h hF ho
  · -- convert
    rename_i c d x ho
    have : ∃ k, lop = .conv k x := by
      repeat' split at hc
      all_goals first
        | (cases hc; done)
        | (simp only [Option.some.injEq] at hc; subst hc; exact ⟨_, rfl⟩)
    obtain ⟨k, rfl⟩ := this
    exact ops_conv hE (by simpa [lopOk] using hok) hS h hF ho hc0
  · -- makeFunc
    rename_i fn x y ho
    simp only [Option.some.injEq] at hc; subst hc
    cases fn <;> simp [lopOk] at hok
    exact ops_func hE hok hS h hF ho rfl rfl
  · rename_i t ho
    simp only [Option.some.injEq] at hc; subst hc
    simp only [runOp, Option.some.injEq, Prod.mk.injEq] at h; obtain ⟨rfl, rfl⟩ := h
    exact ops_makeMap hS hF hfl ho
  · -- makeSlice
    rename_i t x y ho
    split at hc
    · rename_i el hu
      split at hc
      · rename_i n b z hn hb hz
        split at hc
        · rename_i hzl
          simp only [Option.some.injEq] at hc; subst hc
          simp [lopOk] at hok
          exact ops_makeSlice hE hok.1 hok.2 hS h hF hfl ho hu hn hb hz hzl.1 hzl.2
        · cases hc
      · cases hc
    · cases hc
  · -- slice
    rename_i t x lo hi mx ho
    split at hc
    · rename_i hu
      split at hc
      · rename_i hmx
        simp only [Option.some.injEq] at hc; subst hc
        simp [lopOk] at hok
        cases mx <;> simp at hmx
        exact ops_sliceStr hE ⟨hok.1.1, hok.1.2, hok.2⟩ hS h hF hu ho
      · cases hc
    · rename_i el hu
      simp only [Option.map_eq_some_iff] at hc; obtain ⟨n, hn, rfl⟩ := hc
      simp [lopOk] at hok
      exact ops_sliceSl hE ⟨hok.1.1.1, hok.1.1.2, hok.1.2, hok.2⟩ hS h hF hu hn ho
    · rename_i len el hu
      simp only [Option.map_eq_some_iff] at hc; obtain ⟨n, hn, rfl⟩ := hc
      simp [lopOk] at hok
      exact ops_sliceArr hE ⟨hok.1.1.1, hok.1.1.2, hok.1.2, hok.2⟩ hS h hF hu hn ho
    · cases hc
  · -- fieldAddr
    rename_i t x f ho
    split at hc
    · rename_i fs hu
      split at hc
      · rename_i fd hf
        split at hc
        · cases hc
        · rename_i hz
          simp only [Option.some.injEq] at hc; subst hc
          simp [lopOk] at hok
          exact ops_fieldAddr hE hok hS h hF hu hf rfl hz ho
      · cases hc
    · cases hc
  · -- field
    rename_i t x f ho
    split at hc
    · rename_i fs hu
      split at hc
      · rename_i fd hf
        simp only [Option.map_eq_some_iff] at hc; obtain ⟨ag, hag, rfl⟩ := hc
        simp [lopOk] at hok
        exact ops_field hE hok hS h hF hu hf rfl hag ho
      · cases hc
    · cases hc
  · -- indexAddr
    rename_i t x i ho
    split at hc
    · rename_i el hu
      simp only [Option.map_eq_some_iff] at hc; obtain ⟨n, hn, rfl⟩ := hc
      simp [lopOk] at hok
      exact ops_indexSl hE hok hS h hF hu hn ho
    · rename_i len el hu
      simp only [Option.map_eq_some_iff] at hc; obtain ⟨n, hn, rfl⟩ := hc
      simp [lopOk] at hok
      exact ops_indexArrAddr hE hok hS h hF hu hn ho
    · cases hc
  · -- index
    rename_i t x i ho
    split at hc
    · rename_i hu
      simp only [Option.some.injEq] at hc; subst hc
      simp [lopOk] at hok
      exact ops_indexStr hE hok hS h hF hu ho
    · rename_i len el hu
      split at hc
      · rename_i n ag hn hag
        simp only [Option.some.injEq] at hc; subst hc
        simp [lopOk] at hok
        exact ops_indexArr hE hok hS h hF hu hn hag ho
      · cases hc
    · cases hc
  · -- lookup
    rename_i t x k ok ho
    split at hc
    · rename_i kt el hu
      split at hc
      · rename_i kd i hk hi
        simp only [Option.map_eq_some_iff] at hc; obtain ⟨z, hz, rfl⟩ := hc
        simp [lopOk] at hok
        exact ops_lookup hE ⟨hok.1.1, hok.1.2, hok.2⟩ hS h hF ho hu hk hi hz
      · cases hc
    · cases hc
  · -- mapUpdate
    rename_i t x k y ho
    split at hc
    · rename_i kt el hu
      split at hc
      · rename_i kd hk
        simp only [Option.some.injEq] at hc; subst hc
        simp [lopOk] at hok
        exact ops_mapUpdate hE ⟨hok.1.1, hok.1.2, hok.2⟩ hS h hF ho hu hk
      · cases hc
    · cases hc
  · rename_i x i ho
    simp only [Option.some.injEq] at hc; subst hc
    simp [lopOk] at hok
    exact ops_extract hE hok hS h hF ho
  · rename_i t x ho
    split at hc
    · cases hc
    · rename_i d hd hu
      simp only [Option.some.injEq] at hc; subst hc
      simp [lopOk] at hok
      exact ops_iface hE hok hS h hF ho hu hd
    · cases hc
  · simp only [Option.some.injEq] at hc; subst hc; simp [runOp] at h
  · -- call
    rename_i c ho
    split at hc
    · simp only [Option.some.injEq] at hc; subst hc; simp [runOp] at h
    · cases hc
    · rename_i b hb
      split at hc
      · -- append
        rename_i t u x y hty ha
        split at hc
        · rename_i el k hu hu2
          split at hc
          · rename_i n b z hn hb2 hz
            split at hc
            · rename_i hzl
              simp only [Option.some.injEq] at hc; subst hc
              simp [lopOk] at hok
              exact ops_appendZ hE hok.1 hok.2 hS h hF hfl ho hb ha hty hu hu2 hn hb2 hz hzl.2 hzl.1
            · cases hc
          · cases hc
        · rename_i el d hd hu hu2
          split at hc
          · rename_i n b z hn hb2 hz
            split at hc
            · rename_i hzl
              simp only [Option.some.injEq] at hc; subst hc
              simp [lopOk] at hok
              exact ops_append hE hok hS h hF hfl ho hb ha hty hu hu2 hd hn hb2 hz hzl.2 hzl.1
            · cases hc
          · cases hc
        · cases hc
      · -- len
        rename_i t x hty ha
        split at hc
        · rename_i el hu
          simp only [Option.some.injEq] at hc; subst hc
          simp [lopOk] at hok
          exact ops_len hE (k := false) hok hS h hF ho hb ha hty ⟨el, hu⟩
        · rename_i hu
          simp only [Option.some.injEq] at hc; subst hc
          simp [lopOk] at hok
          exact ops_len hE (k := true) hok hS h hF ho hb ha hty hu
        · cases hc
      · -- copy
        rename_i t u x y hty ha
        split at hc
        · rename_i el hu
          simp only [Option.map_eq_some_iff] at hc; obtain ⟨n, hn, rfl⟩ := hc
          simp [lopOk] at hok
          exact ops_copy hE hok hS h hF ho hb ha hty hu hn
        · cases hc
      · -- clear
        rename_i t x hty ha
        split at hc
        · rename_i el hu
          split at hc
          · rename_i n z hn hz
            split at hc
            · rename_i hzl
              simp only [Option.some.injEq] at hc; subst hc
              simp [lopOk] at hok
              exact ops_clear (n := n) hE hok.1 hok.2 hS h hF ho hb ha hty hu hz (by omega)
            · cases hc
          · cases hc
        · cases hc
      · rename_i t x hty ha
        split at hc
        · rename_i el hu
          simp only [Option.some.injEq] at hc; subst hc
          simp [lopOk] at hok
          exact ops_cap hE hok hS h hF ho hb ha hty hu
        · cases hc
      · rename_i x y hty ha
        simp only [Option.some.injEq] at hc; subst hc
        simp [lopOk] at hok
        exact ops_min hE hok hS h hF ho hb ha
      · rename_i x y hty ha
        simp only [Option.some.injEq] at hc; subst hc
        simp [lopOk] at hok
        exact ops_max hE hok hS h hF ho hb ha
      · cases hc
  · cases hc
end Go.Ev
