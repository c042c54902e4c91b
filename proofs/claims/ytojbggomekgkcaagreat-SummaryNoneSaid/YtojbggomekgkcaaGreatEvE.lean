import Derived.Test.YtojbggomekgkcaaGreatEvD
import Derived.Lib.Overlaps
import Derived.Lib.Join
/- An evaluator of the program's functions, and that it is sound: part of the proof. -/
set_option linter.unusedVariables false
set_option linter.unusedSimpArgs false
/- The evaluator's steps as rules for 'simp': each fires only where what it looks at is known. -/
namespace Go.Ev
section
variable {C : Cfg}
theorem mk_v (n : Nat) : (mk C (n + 1)).v = eV C (mk C n) := id rfl
theorem mk_c (n : Nat) : (mk C (n + 1)).c = eC C (mk C n) := id rfl
variable {E : Evs} {fl fn : Nat} {T : Tmps} {s : St} {e : Env}
theorem v_func (n : Nat) {f : Nat} {F : LFunc} {args : List Value} (hp : C.prim f = none) (hf : C.funcs f = some F) (hq : C.pure f = false) (hl : Nat.ble args.length F.n = true) : (mk C (n + 1)).v fl (.func (.func f) #[] #[]) args s = eFEnd s false F.res ((mk C n).c fl f F.body (argsT F.K 0 args) s) := by
  simp only [mk_v, eV, eF, hp, hf, eBody, hq, List.append_nil, List.nil_append]
  rw [if_pos (Nat.le_of_ble_eq_true hl)]
  simp
theorem v_prim (n : Nat) {f : Nat} {p : Prim} {args : List Value} (hp : C.prim f = some p) : (mk C (n + 1)).v fl (.func (.func f) #[] #[]) args s = p fl args s := by
  simp only [mk_v, eV, eF, hp, List.append_nil, List.nil_append]
def eFEndK (s : St) : Option (List Value) → Option (Value × St)
  | some vs => some (tupleOf vs, s)
  | none => none
theorem eFEnd_n {s' : St} {res : List LRes} : eFEnd s false res (some (.normal, T, s')) = eFEndK s' (resVs s' T res) := by
  simp only [eFEnd, eFEndK]; cases resVs s' T res <;> rfl
theorem eFEnd_r {s' : St} {res : List LRes} : eFEnd s false res (some (.ret, T, s')) = eFEndK s' (resVs s' T res) := by
  simp only [eFEnd, eFEndK]; cases resVs s' T res <;> rfl
theorem eFEndK_s {vs : List Value} : eFEndK s (some vs) = some (tupleOf vs, s) := id rfl
theorem eOp_call {g : Operand} {as : List Operand} {e : Env} : eOp E fl s e (.call g as) = eCall E fl s (ev e g) (evs e as) := id rfl
theorem eCall_s {g : Value} {vs : List Value} : eCall E fl s (some g) (some vs) = lift1 (E.v fl g vs s) := id rfl
theorem lift1_s {v : Value} : lift1 (some (v, s)) = some (some v, s) := id rfl
theorem eC_skip : eC C E fl fn .skip T s = some (.normal, T, s) := id rfl
theorem eC_ret : eC C E fl fn .ret T s = some (.ret, T, s) := id rfl
theorem eC_exit {i : Nat} : eC C E fl fn (.exit i) T s = some (.exit i, T, s) := id rfl
theorem eC_seq {a b : LCode} : eC C E fl fn (.seq a b) T s = eThen E fl fn b (E.c fl fn a T s) := id rfl
theorem eC_cond {x : Operand} {a b : LCode} : eC C E fl fn (.cond x a b) T s = eCond E fl fn a b T s (ev ⟨[], T⟩ x) := id rfl
theorem eC_reg {ops : List LOper} : eC C E fl fn (.region ops []) T s = eRegion (eOps E fl ops ⟨[], T⟩ s) := id rfl
theorem eC_block {i : Nat} {b : LCode} : eC C E fl fn (.block i b) T s = eBlock i (E.c fl fn b T s) := id rfl
theorem eC_loop {k : List Nat} {b : LCode} : eC C E fl fn (.loop k b) T s = eThen E fl fn (.loop k b) (E.c fl fn b (Tdrop k T) s) := id rfl
theorem eThen_n {b : LCode} : eThen E fl fn b (some (.normal, T, s)) = E.c fl fn b T s := id rfl
theorem eThen_r {b : LCode} : eThen E fl fn b (some (.ret, T, s)) = some (.ret, T, s) := id rfl
theorem eThen_x {b : LCode} {i : Nat} : eThen E fl fn b (some (.exit i, T, s)) = some (.exit i, T, s) := id rfl
theorem eCond_t {a b : LCode} : eCond E fl fn a b T s (some (.bool true)) = E.c fl fn a T s := id rfl
theorem eCond_f {a b : LCode} : eCond E fl fn a b T s (some (.bool false)) = E.c fl fn b T s := id rfl
theorem eBlock_n {i : Nat} : eBlock i (some (.normal, T, s)) = some (.normal, T, s) := id rfl
theorem eBlock_r {i : Nat} : eBlock i (some (.ret, T, s)) = some (.ret, T, s) := id rfl
theorem eRegion_s : eRegion (some (e, s)) = some (.normal, e.T, s) := id rfl
/-- The rest of a region, where its first operation's outcome is known. -/
def eOpsK (E : Evs) (fl : Nat) (r : List LOper) : Option (Env × St) → Option (Env × St)
  | some (e, s) => eOps E fl r e s
  | none => none
def eOperK (d : Option Nat) (l : Bool) (e : Env) : OpR → Option (Env × St)
  | some (v, s) => some (putD e l d v, s)
  | none => none
theorem eOps_nil : eOps E fl [] e s = some (e, s) := id rfl
theorem eOps_cons {o : LOper} {r : List LOper} : eOps E fl (o :: r) e s = eOpsK E fl r (eOper E fl o e s) := by
  simp only [eOps]
  cases eOper E fl o e s with
  | none => rfl
  | some p => rfl
theorem eOpsK_s {r : List LOper} : eOpsK E fl r (some (e, s)) = eOps E fl r e s := id rfl
theorem eOper_n {d : Option Nat} {l : Bool} {op : LOp} : eOper E fl ⟨d, l, op, none⟩ e s = eOperK d l e (eOp E fl s e op) := by
  simp only [eOper, want]
  cases eOp E fl s e op with
  | none => rfl
  | some p => rfl
theorem eOperK_s {d : Option Nat} {l : Bool} {v : Option Value} : eOperK d l e (some (v, s)) = some (putD e l d v, s) := id rfl
theorem putD_l {L T : Tmps} {d : Nat} {v : Value} : putD ⟨L, T⟩ true (some d) (some v) = ⟨(d, v) :: L, T⟩ := id rfl
theorem putD_t {L T : Tmps} {d : Nat} {v : Value} : putD ⟨L, T⟩ false (some d) (some v) = ⟨L, Tput T d v⟩ := id rfl
theorem putD_n {v : Option Value} {l : Bool} : putD e l none v = e := id rfl
theorem ev_tmp {t : Nat} : ev e (.tmp t) = e.look t := id rfl
theorem ev_const {v : Value} : ev e (.const v) = some v := id rfl
theorem ev_func {f : Nat} : ev e (.func f) = some (.func (.func f) #[] #[]) := id rfl
theorem look_nil {T : Tmps} {i : Nat} : Env.look ⟨[], T⟩ i = Tget T i := id rfl
theorem look_cons {j i : Nat} {v : Value} {L T : Tmps} : Env.look ⟨(j, v) :: L, T⟩ i = if i = j then some v else Env.look ⟨L, T⟩ i := by
  simp only [Env.look, Tget_cons]
  by_cases h : j = i
  · subst h; simp
  · rw [if_neg h, if_neg (fun e => h e.symm)]
theorem Tget_c {j i : Nat} {v : Value} {T : Tmps} : Tget ((j, v) :: T) i = if i = j then some v else Tget T i := by
  rw [Tget_cons]
  by_cases h : j = i
  · subst h; simp
  · rw [if_neg h, if_neg (fun e => h e.symm)]
theorem Tput_nil {i : Nat} {v : Value} : Tput [] i v = [(i, v)] := id rfl
theorem Tput_c {i j : Nat} {u v : Value} {T : Tmps} : Tput ((j, u) :: T) i v = if j = i then (i, v) :: T else if i < j then (i, v) :: (j, u) :: T else (j, u) :: Tput T i v := by
  simp only [Tput, nbeq]
  by_cases h : j = i
  · subst h; simp
  · simp only [h, decide_false, if_false]
    by_cases h2 : i < j
    · rw [if_pos h2, show Nat.blt i j = true from by simpa [Nat.blt_eq] using h2]
    · rw [if_neg h2]; cases h3 : Nat.blt i j
      · rfl
      · exact absurd (by simpa [Nat.blt_eq] using h3) h2
theorem memN_nil {n : Nat} : memN n [] = false := id rfl
theorem memN_c {n m : Nat} {l : List Nat} : memN n (m :: l) = if n = m then true else memN n l := by
  simp only [memN, nbeq]
  by_cases h : n = m
  · simp [h]
  · simp [h]
theorem argsT_nil {K : List Nat} {i : Nat} : argsT K i [] = [] := id rfl
theorem argsT_c {K : List Nat} {i : Nat} {v : Value} {r : List Value} : argsT K i (v :: r) = if memN i K = true then (i, v) :: argsT K (i + 1) r else argsT K (i + 1) r := by
  simp only [argsT]
  cases memN i K <;> rfl
theorem asNat_nat {n i : Nat} (k : IntKind) (h : i ≤ n) : asNat n (.int k (i : Int)) = some i := by
  simp [asNat, h]
theorem wrap_nat {i : Nat} (h : i < 4611686018427387904) : wrapI .i64 (i : Int) = (i : Int) := by
  unfold wrapI
  simp only
  rw [if_pos (by omega)]
theorem wrap_in {i : Int} (h : -9223372036854775808 ≤ i) (g : i < 9223372036854775808) : wrapI .i64 i = i := by
  unfold wrapI
  simp only
  rw [if_pos ⟨h, g⟩]
theorem bo_add {q : EqK} {x y z : Int} (h : wrapI .i64 (x + y) = z) : binOp s .add q (.int .i64 x) (.int .i64 y) = some (.int .i64 z) := by subst h; rfl
theorem bo_sub {q : EqK} {x y z : Int} (h : wrapI .i64 (x - y) = z) : binOp s .sub q (.int .i64 x) (.int .i64 y) = some (.int .i64 z) := by subst h; rfl
theorem bo_eql {q : EqK} {k : IntKind} {x y : Int} {b : Bool} (h : (x == y) = b) : binOp s .eql q (.int k x) (.int k y) = some (.bool b) := by
  subst h; simp [binOp, intOp]
theorem bo_neq {q : EqK} {k : IntKind} {x y : Int} {b : Bool} (h : (x != y) = b) : binOp s .neq q (.int k x) (.int k y) = some (.bool b) := by
  subst h; simp [binOp, intOp]
theorem bo_lss {q : EqK} {k : IntKind} {x y : Int} {b : Bool} (h : (decide (x < y)) = b) : binOp s .lss q (.int k x) (.int k y) = some (.bool b) := by
  subst h; simp [binOp, intOp]
theorem bo_leq {q : EqK} {k : IntKind} {x y : Int} {b : Bool} (h : (decide (x ≤ y)) = b) : binOp s .leq q (.int k x) (.int k y) = some (.bool b) := by
  subst h; simp [binOp, intOp]
theorem bo_gtr {q : EqK} {k : IntKind} {x y : Int} {b : Bool} (h : (decide (x > y)) = b) : binOp s .gtr q (.int k x) (.int k y) = some (.bool b) := by
  subst h; simp [binOp, intOp]
theorem bo_geq {q : EqK} {k : IntKind} {x y : Int} {b : Bool} (h : (decide (x ≥ y)) = b) : binOp s .geq q (.int k x) (.int k y) = some (.bool b) := by
  subst h; simp [binOp, intOp]
theorem some1_s {v : Value} : some1 s (some v) = some (some v, s) := id rfl
end
end Go.Ev
/- slices.Insert: its text, run on the logical states. -/
set_option linter.unusedSimpArgs false
set_option linter.unusedVariables false
namespace Go.Ev
def insF (st bytes : Nat) (zero : List Value) (fo fr : Nat) : LFunc := ⟨95, [68, 9, 31, 22, 8, 16, 7, 2, 1, 0, 6], [.tmp 6],
 .seq (.region [⟨(some 6), false, .mov (.const (.slice none 0 0)), none⟩] [])
 (.seq (.region [⟨(some 10), true, .mov (.tmp 0), none⟩, ⟨(some 11), true, .mov (.tmp 1), none⟩, ⟨(some 12), true, .sliceSl st (.tmp 10) (some (.tmp 11)) none none, none⟩] [])
 (.seq (.region [⟨(some 13), true, .mov (.tmp 2), none⟩, ⟨(some 14), true, .len false (.tmp 13), none⟩, ⟨(some 7), false, .mov (.tmp 14), none⟩] [])
 (.seq (.seq (.region [⟨(some 15), true, .mov (.tmp 7), none⟩, ⟨(some 16), false, .bin .eql .none (.tmp 15) (.const (.int .i64 0)), none⟩] [])
 (.cond (.tmp 16) (.seq (.region [⟨(some 17), true, .mov (.tmp 0), none⟩, ⟨(some 6), false, .mov (.tmp 17), none⟩] [])
 (.ret)) (.skip)))
 (.seq (.region [⟨(some 18), true, .mov (.tmp 0), none⟩, ⟨(some 19), true, .len false (.tmp 18), none⟩, ⟨(some 8), false, .mov (.tmp 19), none⟩] [])
 (.seq (.seq (.region [⟨(some 20), true, .mov (.tmp 1), none⟩, ⟨(some 21), true, .mov (.tmp 8), none⟩, ⟨(some 22), false, .bin .eql .none (.tmp 20) (.tmp 21), none⟩] [])
 (.cond (.tmp 22) (.seq (.region [⟨(some 23), true, .mov (.tmp 0), none⟩, ⟨(some 24), true, .mov (.tmp 2), none⟩, ⟨(some 25), true, .append st bytes (.tmp 23) (.tmp 24), none⟩, ⟨(some 6), false, .mov (.tmp 25), none⟩] [])
 (.ret)) (.skip)))
 (.seq (.seq (.region [⟨(some 26), true, .mov (.tmp 8), none⟩, ⟨(some 27), true, .mov (.tmp 7), none⟩, ⟨(some 28), true, .bin .add .none (.tmp 26) (.tmp 27), none⟩, ⟨(some 29), true, .mov (.tmp 0), none⟩, ⟨(some 30), true, .cap (.tmp 29), none⟩, ⟨(some 31), false, .bin .gtr .none (.tmp 28) (.tmp 30), none⟩] [])
 (.cond (.tmp 31) (.seq (.region [⟨(some 32), true, .mov (.tmp 0), none⟩, ⟨(some 33), true, .mov (.tmp 1), none⟩, ⟨(some 34), true, .sliceSl st (.tmp 32) none (some (.tmp 33)) none, none⟩, ⟨(some 35), true, .mov (.tmp 8), none⟩, ⟨(some 36), true, .mov (.tmp 7), none⟩, ⟨(some 37), true, .bin .add .none (.tmp 35) (.tmp 36), none⟩, ⟨(some 38), true, .mov (.tmp 1), none⟩, ⟨(some 39), true, .bin .sub .none (.tmp 37) (.tmp 38), none⟩, ⟨(some 40), true, .appendZ st bytes zero (.tmp 34) (.tmp 39), none⟩, ⟨(some 9), false, .mov (.tmp 40), none⟩] [])
 (.seq (.region [⟨(some 41), true, .mov (.tmp 9), none⟩, ⟨(some 42), true, .mov (.tmp 1), none⟩, ⟨(some 43), true, .sliceSl st (.tmp 41) (some (.tmp 42)) none none, none⟩, ⟨(some 44), true, .mov (.tmp 2), none⟩, ⟨(some 45), true, .copy st (.tmp 43) (.tmp 44), none⟩] [])
 (.seq (.region [⟨(some 46), true, .mov (.tmp 9), none⟩, ⟨(some 47), true, .mov (.tmp 1), none⟩, ⟨(some 48), true, .mov (.tmp 7), none⟩, ⟨(some 49), true, .bin .add .none (.tmp 47) (.tmp 48), none⟩, ⟨(some 50), true, .sliceSl st (.tmp 46) (some (.tmp 49)) none none, none⟩, ⟨(some 51), true, .mov (.tmp 0), none⟩, ⟨(some 52), true, .mov (.tmp 1), none⟩, ⟨(some 53), true, .sliceSl st (.tmp 51) (some (.tmp 52)) none none, none⟩, ⟨(some 54), true, .copy st (.tmp 50) (.tmp 53), none⟩] [])
 (.seq (.region [⟨(some 55), true, .mov (.tmp 9), none⟩, ⟨(some 6), false, .mov (.tmp 55), none⟩] [])
 (.ret))))) (.skip)))
 (.seq (.region [⟨(some 56), true, .mov (.tmp 0), none⟩, ⟨(some 57), true, .mov (.tmp 8), none⟩, ⟨(some 58), true, .mov (.tmp 7), none⟩, ⟨(some 59), true, .bin .add .none (.tmp 57) (.tmp 58), none⟩, ⟨(some 60), true, .sliceSl st (.tmp 56) none (some (.tmp 59)) none, none⟩, ⟨(some 0), false, .mov (.tmp 60), none⟩] [])
 (.seq (.seq (.region [⟨(some 61), true, .mov (.tmp 2), none⟩, ⟨(some 62), true, .mov (.tmp 0), none⟩, ⟨(some 63), true, .mov (.tmp 1), none⟩, ⟨(some 64), true, .mov (.tmp 7), none⟩, ⟨(some 65), true, .bin .add .none (.tmp 63) (.tmp 64), none⟩, ⟨(some 66), true, .sliceSl st (.tmp 62) (some (.tmp 65)) none none, none⟩, ⟨(some 67), true, .call (.func fo) [(.tmp 61), (.tmp 66)], none⟩, ⟨(some 68), false, .un .not (.tmp 67), none⟩] [])
 (.cond (.tmp 68) (.seq (.region [⟨(some 69), true, .mov (.tmp 0), none⟩, ⟨(some 70), true, .mov (.tmp 1), none⟩, ⟨(some 71), true, .mov (.tmp 7), none⟩, ⟨(some 72), true, .bin .add .none (.tmp 70) (.tmp 71), none⟩, ⟨(some 73), true, .sliceSl st (.tmp 69) (some (.tmp 72)) none none, none⟩, ⟨(some 74), true, .mov (.tmp 0), none⟩, ⟨(some 75), true, .mov (.tmp 1), none⟩, ⟨(some 76), true, .sliceSl st (.tmp 74) (some (.tmp 75)) none none, none⟩, ⟨(some 77), true, .copy st (.tmp 73) (.tmp 76), none⟩] [])
 (.seq (.region [⟨(some 78), true, .mov (.tmp 0), none⟩, ⟨(some 79), true, .mov (.tmp 1), none⟩, ⟨(some 80), true, .sliceSl st (.tmp 78) (some (.tmp 79)) none none, none⟩, ⟨(some 81), true, .mov (.tmp 2), none⟩, ⟨(some 82), true, .copy st (.tmp 80) (.tmp 81), none⟩] [])
 (.seq (.region [⟨(some 83), true, .mov (.tmp 0), none⟩, ⟨(some 6), false, .mov (.tmp 83), none⟩] [])
 (.ret)))) (.skip)))
 (.seq (.region [⟨(some 84), true, .mov (.tmp 0), none⟩, ⟨(some 85), true, .mov (.tmp 8), none⟩, ⟨(some 86), true, .sliceSl st (.tmp 84) (some (.tmp 85)) none none, none⟩, ⟨(some 87), true, .mov (.tmp 2), none⟩, ⟨(some 88), true, .copy st (.tmp 86) (.tmp 87), none⟩] [])
 (.seq (.region [⟨(some 89), true, .mov (.tmp 0), none⟩, ⟨(some 90), true, .mov (.tmp 1), none⟩, ⟨(some 91), true, .sliceSl st (.tmp 89) (some (.tmp 90)) none none, none⟩, ⟨(some 92), true, .mov (.tmp 7), none⟩, ⟨(some 93), true, .call (.func fr) [(.tmp 91), (.tmp 92)], none⟩] [])
 (.seq (.region [⟨(some 94), true, .mov (.tmp 0), none⟩, ⟨(some 6), false, .mov (.tmp 94), none⟩] [])
 (.ret))))))))))))⟩
section
variable {C : Cfg} {s : St} {fl : Nat}
theorem St.get_hm {b : Nat} {o : LObj} (h : s.hm.get b = some o) : s.get b = some o := by simp [St.get, h]
theorem ld_cells {b o n : Nat} {X Y Z : List Value} (h : s.hm.get b = some (.cells (X ++ Y ++ Z))) (hx : X.length = o) (hy : Y.length = n) (hj : noJ Y = true) : s.ld b o n = some Y := by
  have e : ((X ++ Y ++ Z).drop o).take n = Y := by
    subst hx; subst hy; simp
  unfold St.ld
  rw [St.get_hm h]
  simp only [e, hj]
  rw [if_pos ⟨by simp; omega, trivial⟩]
theorem st_cells {b o : Nat} {X Y Z V : List Value} (h : s.hm.get b = some (.cells (X ++ Y ++ Z))) (hx : X.length = o) (hy : Y.length = V.length) (hfl : fl ≤ b) (hv : V.all scalar = true) :
    s.st fl b o V = some { s with hm := s.hm.set b (some (.cells (X ++ V ++ Z))) } := by
  unfold St.st
  simp only [h]
  rw [if_pos ⟨hfl, by simp; omega, hv⟩]
  subst hx
  have e : (X ++ Y ++ Z).take X.length ++ V ++ (X ++ Y ++ Z).drop (X.length + V.length) = X ++ V ++ Z := by
    rw [← hy]; simp
  rw [e]
theorem Trie.putB_putB {α : Type} (x y : Option α) : ∀ (p : List Bool) (t : Trie α), Trie.putB x p (Trie.putB y p t) = Trie.putB x p t := by
  intro p
  induction p with
  | nil => intro t; cases t <;> rfl
  | cons b p ih => intro t; cases t <;> cases b <;> simp [Trie.putB, ih]
theorem Trie.set_set {α : Type} (t : Trie α) (n : Nat) (x y : Option α) : (t.set n y).set n x = t.set n x := Trie.putB_putB x y _ t
theorem ld_set_ne {b b' o n : Nat} {x : Option LObj} (h : b' ≠ b) : St.ld { s with hm := s.hm.set b x } b' o n = s.ld b' o n := by
  simp only [St.ld, St.get, Trie.get_set_ne _ _ h]
theorem rCopy_ok {st dl dc sl sc n : Nat} {a a2 : Addr} {c : List Value} {s' : St} (hn : min sl dl = n) (h0 : 0 < n) (hld : s.ld a2.block a2.off (n * st) = some c) (hst : s.st fl a.block a.off c = some s') :
    rCopy fl s st (some (.slice (some a) dl dc)) (some (.slice (some a2) sl sc)) = some (some (.int .i64 n), s') := by
  have hle : n ≤ sl := by omega
  simp only [rCopy, lenV, hn, elemCells]
  rw [if_neg (by omega), if_pos hle, hld]
  simp only
  rw [if_neg (by omega), hst]
theorem insA {f : Nat} {st bytes fo fr : Nat} {zero : List Value} (hp : C.prim f = none) (hf : C.funcs f = some (insF st bytes zero fo fr)) (hq : C.pure f = false)
    (base : Option Addr) (len cap : Nat) (vb : Option Addr) (m mc : Nat) (hm : 0 < m) (hlc : len ≤ cap) (sp : ∀ a, base = some a → ∃ q, a.spot = some q ∧ (q = 0 ∨ q = st)) {v' : Value} {s' : St} (ha : appendOp fl s st bytes (.slice base len cap) (.slice vb m mc) = some (v', s')) (n : Nat) :
    (mk C (n + 25)).v fl (.func (.func f) #[] #[]) [.slice base len cap, .int .i64 len, .slice vb m mc] s = some (v', s') := by
  have hv : ∀ (n : Nat) (x y z : Value), (mk C (n + 1)).v fl (.func (.func f) #[] #[]) [x, y, z] s = eFEnd s false (insF st bytes zero fo fr).res ((mk C n).c fl f (insF st bytes zero fo fr).body (argsT (insF st bytes zero fo fr).K 0 [x, y, z]) s) := fun n x y z => v_func n hp hf hq rfl
  have hl0 : ((len : Int) == (len : Int)) = true := by simp
  have hm0 : ((m : Int) == 0) = false := by simp; omega
  have hspot : ∀ a, base = some a → spotOf st false a.spot = some a.spot := by
    intro a ha
    obtain ⟨q, h1, h2⟩ := sp a ha
    rw [h1]
    rcases h2 with h2 | h2
    · subst h2; rfl
    · subst h2; cases q <;> simp [spotOf]
  have h1 := @asNat_nat cap len .i64 hlc
  have h2 := @asNat_nat len len .i64 (Nat.le_refl _)
  cases base with
  | none =>
    simp only [hv, mk_c, insF, eC_seq, eC_reg, eC_cond, eC_skip, eC_ret, eThen_n, eThen_r, eCond_t, eCond_f, eRegion_s, eOps_nil, eOps_cons, eOpsK_s, eOper_n, eOperK_s, putD_l, putD_t, ev_tmp, ev_const, ev_func, evo, evs,
      look_nil, look_cons, Tget_c, Tput_nil, Tput_c, memN_nil, memN_c, argsT_nil, argsT_c, some1_s, eOp, runOp,
      List.nil_append, List.append_nil, List.cons_append, Nat.reduceAdd, Nat.reduceLeDiff, if_true, Nat.reduceEqDiff, Nat.reduceLT, reduceIte, decide_true, decide_false, reduceCtorEq, if_false, Bool.false_eq_true, Option.isSome, beq_self_eq_true,
      rSliceSl, rLen, rBin,  rAppend, lift1_s, eFEnd_r, eFEndK_s, resVs, resV, tupleOf, bounds, h1, h2, bo_eql hm0, bo_eql hl0, ha]
  | some a =>
    have h3 := hspot a rfl
    simp only [hv, mk_c, insF, eC_seq, eC_reg, eC_cond, eC_skip, eC_ret, eThen_n, eThen_r, eCond_t, eCond_f, eRegion_s, eOps_nil, eOps_cons, eOpsK_s, eOper_n, eOperK_s, putD_l, putD_t, ev_tmp, ev_const, ev_func, evo, evs,
      look_nil, look_cons, Tget_c, Tput_nil, Tput_c, memN_nil, memN_c, argsT_nil, argsT_c, some1_s, eOp, runOp,
      List.nil_append, List.append_nil, List.cons_append, Nat.reduceAdd, Nat.reduceLeDiff, if_true, Nat.reduceEqDiff, Nat.reduceLT, reduceIte, decide_true, decide_false, reduceCtorEq, if_false, Bool.false_eq_true, Option.isSome, beq_self_eq_true,
      rSliceSl, rLen, rBin,  rAppend, lift1_s, eFEnd_r, eFEndK_s, resVs, resV, tupleOf, bounds, h1, h2, bo_eql hm0, bo_eql hl0, ha, h3]
theorem insC {f : Nat} {st bytes fo fr : Nat} {zero : List Value} {ov : Prim} (hp : C.prim f = none) (hf : C.funcs f = some (insF st bytes zero fo fr)) (hq : C.pure f = false) (ho : C.prim fo = some ov)
    (b len cap i vb vo m mc : Nat) (vsp : Option Nat) (X A B V J J' : List Value) (hm : 0 < m) (hi : i < len) (hlc : len + m ≤ cap) (hbig : len + m < 4611686018427387904) (hne : vb ≠ b) (hmc : m ≤ mc)
    (hb : s.hm.get b = some (.cells (X ++ A ++ B ++ J ++ J'))) (hA : A.length = i * st) (hB : B.length = (len - i) * st) (hJ : J.length = m * st) (hfl : fl ≤ b)
    (hV : s.ld vb vo (m * st) = some V) (hVl : V.length = m * st) (hBs : B.all scalar = true) (hVs : V.all scalar = true) (hBj : noJ B = true)
    (hov : ∀ x l c, ov fl [.slice (some ⟨vb, vo, vsp⟩) m mc, .slice (some ⟨b, x, some 0⟩) l c] s = some (.bool false, s)) (n : Nat) :
    (mk C (n + 25)).v fl (.func (.func f) #[] #[]) [.slice (some ⟨b, X.length, some 0⟩) len cap, .int .i64 i, .slice (some ⟨vb, vo, vsp⟩) m mc] s =
      some (.slice (some ⟨b, X.length, some 0⟩) (len + m) cap, { s with hm := s.hm.set b (some (.cells (X ++ A ++ V ++ B ++ J'))) }) := by
  have hv : ∀ (n : Nat) (x y z : Value), (mk C (n + 1)).v fl (.func (.func f) #[] #[]) [x, y, z] s = eFEnd s false (insF st bytes zero fo fr).res ((mk C n).c fl f (insF st bytes zero fo fr).body (argsT (insF st bytes zero fo fr).K 0 [x, y, z]) s) := fun n x y z => v_func n hp hf hq rfl
  obtain ⟨P, Q, hPQ, hP, hQ⟩ : ∃ P Q, B ++ J = P ++ Q ∧ P.length = m * st ∧ Q.length = B.length :=
    ⟨(B ++ J).take (m * st), (B ++ J).drop (m * st), (List.take_append_drop _ _).symm, by simp [hJ], by simp [hJ]⟩
  have hb1 : s.hm.get b = some (.cells ((X ++ A) ++ B ++ (J ++ J'))) := by rw [hb]; simp
  have hb2 : s.hm.get b = some (.cells ((X ++ A ++ P) ++ Q ++ J')) := by rw [hb]; congr 2; simp only [List.append_assoc]; rw [← List.append_assoc B, hPQ]; simp
  have hld1 : s.ld b (X.length + i * st) ((len - i) * st) = some B := ld_cells hb1 (by simp [hA]) hB hBj
  have hst1 : s.st fl b (X.length + (i + m) * st) B = some { s with hm := s.hm.set b (some (.cells (X ++ A ++ P ++ B ++ J'))) } :=
    st_cells hb2 (by simp [hA, hP, Nat.add_mul, Nat.add_assoc]) hQ hfl hBs
  have hld2 : St.ld { s with hm := s.hm.set b (some (.cells (X ++ A ++ P ++ B ++ J'))) } vb vo (m * st) = some V := by rw [ld_set_ne hne]; exact hV
  have hst2 : St.st fl { s with hm := s.hm.set b (some (.cells (X ++ A ++ P ++ B ++ J'))) } b (X.length + i * st) V = some { s with hm := s.hm.set b (some (.cells (X ++ A ++ V ++ B ++ J'))) } := by
    have h := st_cells (s := { s with hm := s.hm.set b (some (.cells (X ++ A ++ P ++ B ++ J'))) }) (fl := fl) (b := b) (o := X.length + i * st) (X := X ++ A) (Y := P) (Z := B ++ J') (V := V) (by simp) (by simp [hA]) (by rw [hP, hVl]) hfl hVs
    rw [h]; simp only [Trie.set_set, List.append_assoc]
  have hc1 := rCopy_ok (s := s) (fl := fl) (st := st) (dl := len + m - (i + m)) (dc := cap - (i + m)) (sl := len + m - i) (sc := cap - i) (n := len - i) (a := ⟨b, X.length + (i + m) * st, some 0⟩) (a2 := ⟨b, X.length + i * st, some 0⟩) (by omega) (by omega) hld1 hst1
  have hc2 := rCopy_ok (s := { s with hm := s.hm.set b (some (.cells (X ++ A ++ P ++ B ++ J'))) }) (fl := fl) (st := st) (dl := len + m - i) (dc := cap - i) (sl := m) (sc := mc) (n := m) (a := ⟨b, X.length + i * st, some 0⟩) (a2 := ⟨vb, vo, vsp⟩) (by omega) hm hld2 hst2
  have hm0 : ((m : Int) == 0) = false := by simp; omega
  have hi0 : ((i : Int) == (len : Int)) = false := by simp; omega
  have hbig' := hbig
  clear hbig
  have w3 : decide (((len + m : Nat) : Int) > (cap : Int)) = false := by simp; omega
  have h1 := @asNat_nat cap len .i64 (by omega)
  have h2 := @asNat_nat len i .i64 (by omega)
  have h3 := @asNat_nat cap (len + m) .i64 (by omega)
  have h4 := @asNat_nat (len + m) (i + m) .i64 (by omega)
  have h5 := @asNat_nat (len + m) i .i64 (by omega)
  have w1 : ∀ s, binOp s .add .none (.int .i64 (len : Int)) (.int .i64 (m : Int)) = some (.int .i64 ((len + m : Nat) : Int)) := fun s => bo_add (by rw [← Int.natCast_add]; exact wrap_nat hbig')
  have w2 : ∀ s, binOp s .add .none (.int .i64 (i : Int)) (.int .i64 (m : Int)) = some (.int .i64 ((i + m : Nat) : Int)) := fun s => bo_add (by rw [← Int.natCast_add]; exact wrap_nat (Nat.lt_trans (Nat.add_lt_add_right hi m) hbig'))
  simp only [hv, mk_c, insF, eC_seq, eC_reg, eC_cond, eC_skip, eC_ret, eThen_n, eThen_r, eCond_t, eCond_f, eRegion_s, eOps_nil, eOps_cons, eOpsK_s, eOper_n, eOperK_s, putD_l, putD_t, ev_tmp, ev_const, ev_func, evo, evs,
      look_nil, look_cons, Tget_c, Tput_nil, Tput_c, memN_nil, memN_c, argsT_nil, argsT_c, some1_s, eOp, runOp,
      List.nil_append, List.append_nil, List.cons_append, Nat.reduceAdd, Nat.reduceLeDiff, if_true, Nat.reduceEqDiff, Nat.reduceLT, reduceIte, decide_true, decide_false, reduceCtorEq, if_false, Bool.false_eq_true, Option.isSome, beq_self_eq_true,
      rSliceSl, rLen, rBin,  rAppend, lift1_s, eFEnd_r, eFEndK_s, resVs, resV, tupleOf, bounds, h1, h2, bo_eql hm0, bo_eql hi0, rCap, w1, w2, bo_gtr w3, h3, h4, h5, spotOf, Nat.sub_zero, Nat.zero_mul, Nat.add_zero, eOp_call, eCall_s, v_prim _ ho, hov, rUn, unOp, hc1, hc2, Bool.not_false]
theorem rep_len2 {zero : List Value} : ∀ n, (rep zero n).length = n * zero.length
  | 0 => by simp [rep]
  | n + 1 => by simp [rep, rep_len2 n, Nat.add_mul]; omega
theorem rep_all {zero : List Value} (h : zero.all scalar = true) : ∀ n, (rep zero n).all scalar = true
  | 0 => rfl
  | n + 1 => by simp only [rep, List.all_append, h, rep_all h n, Bool.and_self]
theorem new_hm (o : LObj) : (s.new o).hm.get s.k = some o := by simp [St.new]
theorem ld_new {b o n : Nat} {x : LObj} (h : b ≠ s.k) : (s.new x).ld b o n = s.ld b o n := by
  simp only [St.ld, St.get, St.new, Trie.get_set_ne _ _ h]
theorem new_st {o : Nat} {X Y Z V : List Value} (hx : X.length = o) (hy : Y.length = V.length) (hfl : fl ≤ s.k) (hv : V.all scalar = true) :
    (s.new (.cells (X ++ Y ++ Z))).st fl s.k o V = some (s.new (.cells (X ++ V ++ Z))) := by
  rw [st_cells (new_hm _) hx hy hfl hv]
  simp only [St.new, Trie.set_set]
theorem insB {f : Nat} {st q bytes fo fr : Nat} {zero : List Value} (hp : C.prim f = none) (hf : C.funcs f = some (insF st bytes zero fo fr)) (hq : C.pure f = false)
    (b len cap i vb vo m mc : Nat) (vsp : Option Nat) (X A B V J : List Value) (hst : st = q + 1) (hz : zero.length = st) (hzs : zero.all scalar = true) (hby : bytes < 65536) (hm : 0 < m) (hi : i < len) (hlc : len ≤ cap) (hcap : cap < len + m) (hbig : len + m < 1073741824) (hmc : m ≤ mc)
    (hb : s.hm.get b = some (.cells (X ++ A ++ B ++ J))) (hA : A.length = i * st) (hB : B.length = (len - i) * st) (hfl : fl ≤ s.k) (hbk : b ≠ s.k) (hvk : vb ≠ s.k)
    (hV : s.ld vb vo (m * st) = some V) (hVl : V.length = m * st) (hBs : B.all scalar = true) (hVs : V.all scalar = true) (hBj : noJ B = true) (hAj : noJ A = true) (n : Nat) :
    (mk C (n + 25)).v fl (.func (.func f) #[] #[]) [.slice (some ⟨b, X.length, some 0⟩) len cap, .int .i64 i, .slice (some ⟨vb, vo, vsp⟩) m mc] s =
      some (.slice (some ⟨s.k, 0, some st⟩) (len + m) (len + m), s.new (.cells (A ++ V ++ B))) := by
  have hst0 : 0 < st := by omega
  have hsp : spotOf st false (some st) = some (some st) := by subst hst; simp [spotOf]
  have hsp0 : ∀ mx, spotOf st mx (some 0) = some (some 0) := fun _ => rfl
  have hr := rep_len2 (zero := zero) (len + m - i)
  rw [hz] at hr
  have hmul : (len + m - i) * st = m * st + (len - i) * st := by rw [← Nat.add_mul]; congr 1; omega
  obtain ⟨P, Q, hPQ, hP, hQ⟩ : ∃ P Q, rep zero (len + m - i) = P ++ Q ∧ P.length = m * st ∧ Q.length = (len - i) * st :=
    ⟨_, _, (List.take_append_drop (m * st) _).symm, by rw [List.length_take, hr, hmul]; exact Nat.min_eq_left (Nat.le_add_right _ _), by rw [List.length_drop, hr, hmul]; exact Nat.add_sub_cancel_left _ _⟩
  have hb1 : s.hm.get b = some (.cells (X ++ A ++ (B ++ J))) := by rw [hb]; simp
  have hldA : i ≠ 0 → s.ld b X.length (i * st) = some A := fun _ => ld_cells hb1 rfl hA hAj
  have hldB : s.ld b (X.length + i * st) ((len - i) * st) = some B := ld_cells hb (by simp [hA]) hB hBj
  have helem : elemCells s st (.slice (some ⟨b, X.length, some 0⟩) i cap) i = some A := by
    simp only [elemCells]
    by_cases h0 : i = 0
    · rw [if_pos h0]
      have : A.length = 0 := by rw [hA, h0]; simp
      rw [List.length_eq_zero_iff.1 this]
    · rw [if_neg h0, if_pos (Nat.le_refl _)]; exact hldA h0
  have hap : rAppendZ fl s st bytes zero (some (.slice (some ⟨b, X.length, some 0⟩) i cap)) (some (.int .i64 ((len + m - i : Nat) : Int))) = some (some (.slice (some ⟨s.k, 0, some st⟩) (len + m) (len + m)), s.new (.cells (A ++ P ++ Q))) := by
    simp only [rAppendZ, Int.toNat_natCast]
    rw [if_pos ⟨by omega, by omega, hby⟩]
    simp only [appendCells]
    have e1 : i + (len + m - i) = len + m := by omega
    rw [e1, if_neg (by omega), if_pos ⟨by omega, hby, rep_all hzs _⟩, helem]
    simp only [appendNew, lift1, hPQ, List.append_assoc]
  have hst1 : (s.new (.cells (A ++ P ++ Q))).st fl s.k (i * st) V = some (s.new (.cells (A ++ V ++ Q))) := new_st hA (by rw [hP, hVl]) hfl hVs
  have hst2 : (s.new (.cells (A ++ V ++ Q))).st fl s.k ((i + m) * st) B = some (s.new (.cells (A ++ V ++ B))) := by
    have := new_st (s := s) (fl := fl) (o := (i + m) * st) (X := A ++ V) (Y := Q) (Z := []) (V := B) (by simp [hA, hVl, Nat.add_mul]) (by rw [hQ, hB]) hfl hBs
    simpa using this
  have hc1 := rCopy_ok (s := s.new (.cells (A ++ P ++ Q))) (fl := fl) (st := st) (dl := len + m - i) (dc := len + m - i) (sl := m) (sc := mc) (n := m) (a := ⟨s.k, 0 + i * st, some st⟩) (a2 := ⟨vb, vo, vsp⟩) (by omega) hm (by rw [ld_new hvk]; exact hV) (by rw [Nat.zero_add]; exact hst1)
  have hc2 := rCopy_ok (s := s.new (.cells (A ++ V ++ Q))) (fl := fl) (st := st) (dl := len + m - (i + m)) (dc := len + m - (i + m)) (sl := len - i) (sc := cap - i) (n := len - i) (a := ⟨s.k, 0 + (i + m) * st, some st⟩) (a2 := ⟨b, X.length + i * st, some 0⟩) (by omega) (by omega) (by rw [ld_new hbk]; exact hldB) (by rw [Nat.zero_add]; exact hst2)
  have hv : ∀ (n : Nat) (x y z : Value), (mk C (n + 1)).v fl (.func (.func f) #[] #[]) [x, y, z] s = eFEnd s false (insF st bytes zero fo fr).res ((mk C n).c fl f (insF st bytes zero fo fr).body (argsT (insF st bytes zero fo fr).K 0 [x, y, z]) s) := fun n x y z => v_func n hp hf hq rfl
  have hm0 : ((m : Int) == 0) = false := by simp; omega
  have hi0 : ((i : Int) == (len : Int)) = false := by simp; omega
  have hbig' : len + m < 4611686018427387904 := Nat.lt_trans hbig (by decide)
  have w1 : ∀ s, binOp s .add .none (.int .i64 (len : Int)) (.int .i64 (m : Int)) = some (.int .i64 ((len + m : Nat) : Int)) := fun s => bo_add (by rw [← Int.natCast_add]; exact wrap_nat hbig')
  have w2 : ∀ s, binOp s .add .none (.int .i64 (i : Int)) (.int .i64 (m : Int)) = some (.int .i64 ((i + m : Nat) : Int)) := fun s => bo_add (by rw [← Int.natCast_add]; exact wrap_nat (Nat.lt_trans (Nat.add_lt_add_right hi m) hbig'))
  have w4 : ∀ s, binOp s .sub .none (.int .i64 ((len + m : Nat) : Int)) (.int .i64 (i : Int)) = some (.int .i64 ((len + m - i : Nat) : Int)) := fun s => bo_sub (by rw [← Int.ofNat_sub (Nat.le_trans (Nat.le_of_lt hi) (Nat.le_add_right len m))]; exact wrap_nat (Nat.lt_of_le_of_lt (Nat.sub_le _ _) hbig'))
  clear hbig hbig'
  have w3 : decide (((len + m : Nat) : Int) > (cap : Int)) = true := by simp; omega
  have h1 := @asNat_nat cap len .i64 (by omega)
  have h2 := @asNat_nat len i .i64 (by omega)
  have h3 := @asNat_nat cap i .i64 (by omega)
  have h4 := @asNat_nat (len + m) (i + m) .i64 (by omega)
  have h5 := @asNat_nat (len + m) i .i64 (by omega)
  simp only [hv, mk_c, insF, eC_seq, eC_reg, eC_cond, eC_skip, eC_ret, eThen_n, eThen_r, eCond_t, eCond_f, eRegion_s, eOps_nil, eOps_cons, eOpsK_s, eOper_n, eOperK_s, putD_l, putD_t, ev_tmp, ev_const, ev_func, evo, evs,
      look_nil, look_cons, Tget_c, Tput_nil, Tput_c, memN_nil, memN_c, argsT_nil, argsT_c, some1_s, eOp, runOp,
      List.nil_append, List.append_nil, List.cons_append, Nat.reduceAdd, Nat.reduceLeDiff, if_true, Nat.reduceEqDiff, Nat.reduceLT, reduceIte, decide_true, decide_false, reduceCtorEq, if_false, Bool.false_eq_true, Option.isSome, beq_self_eq_true,
      rSliceSl, rLen, rBin,  rAppend, lift1_s, eFEnd_r, eFEndK_s, resVs, resV, tupleOf, bounds, h1, h2, bo_eql hm0, bo_eql hi0, rCap, w1, w2, w4, bo_gtr w3, h3, h4, h5, hap, hsp, hsp0, Nat.sub_zero, Nat.zero_mul, Nat.add_zero, hc1, hc2]
end
end Go.Ev
/- slices.Insert as a function told in one step. -/
set_option linter.unusedSimpArgs false
set_option linter.unusedVariables false
namespace Go.Ev
variable {P : Program}
theorem Fin.imp {fl : Nat} {ι : Inj} {s s1 s' s1' : St} {w : World} {v v1 : Value} (H : ∀ ι' w' u, Post fl ι s1 w ι' s1' w' → SRel P ι' s1' w' → VRel ι' v1 u → Fin P fl ι s w (some v) s' u w') {u : Value} {w' : World} (h : Fin P fl ι s1 w (some v1) s1' u w') : Fin P fl ι s w (some v) s' u w' := by
  obtain ⟨ι', h1, h2, h3⟩ := h
  exact H ι' w' u h1 h2 (h3 v1 rfl)
theorem NextOK.imp {fl : Nat} {ι : Inj} {s s1 s' s1' : St} {w : World} {v v1 : Value} (H : ∀ ι' w' u, Post fl ι s1 w ι' s1' w' → SRel P ι' s1' w' → VRel ι' v1 u → Fin P fl ι s w (some v) s' u w') {r : Result Next} (h : NextOK P fl ι s1 w (some v1) s1' r) : NextOK P fl ι s w (some v) s' r := by
  cases h with
  | value h => exact .value (Fin.imp H h)
  | skip h => exact .skip (Fin.imp H h)
  | enter h => exact .enter (h.mono fun e w' ⟨u, he, hf⟩ => ⟨u, he, Fin.imp H hf⟩)
  | round h => exact .round (h.mono fun e w' ⟨u, he, hf⟩ => ⟨u, he, Fin.imp H hf⟩)
/-- A function told in one step, by a run on other logical states. -/
theorem prim_via {C : Cfg} (hO : CfgOk P C) {f : Nat} {p : Prim}
    (H : ∀ fl args s v s', p fl args s = some (v, s') → s.k ≤ s'.k ∧ ∀ ι w (args' : Array Value), VRels ι args args'.toList → SRel P ι s w → Fresh ι s s'.k → fl ≤ s.k →
      ∃ n args1 s1 v1 s1', (mk C n).v fl (.func (.func f) #[] #[]) args1 s1 = some (v1, s1') ∧ VRels ι args1 args'.toList ∧ SRel P ι s1 w ∧ Fresh ι s1 s1'.k ∧ fl ≤ s1.k ∧
        ∀ ι' w' u, Post fl ι s1 w ι' s1' w' → SRel P ι' s1' w' → VRel ι' v1 u → Fin P fl ι s w (some v) s' u w') : PrimOk P f p := by
  intro fl args s v s' hp
  obtain ⟨hk, h⟩ := H fl args s v s' hp
  refine ⟨hk, fun ι w args' ha hS hF hfl => ?_⟩
  obtain ⟨n, args1, s1, v1, s1', h1, h2, h3, h4, h5, h6⟩ := h ι w args' ha hS hF hfl
  have := (sound hO n).2.1 _ _ _ _ _ _ h1 ι w (.func (.func f) #[] #[]) args' (.func .nil .nil) h2 h3 h4 h5
  have hrun : (Deferred.ofValue (.func (.func f) #[] #[]) args' >>= fun d => invoke d.target d.args).run P w = (callFunc f args').run P w := by
    simp only [Deferred.ofValue, Sem.run_bind, Sem.run_pure, Result.andThen_ok, invoke, Array.append_empty, Array.empty_append]
  rw [hrun] at this
  exact this.imp h6
theorem VRel.slice_inv {ι : Inj} {a : Addr} {len cap : Nat} {v' : Value} (h : VRel ι (.slice (some a) len cap) v') :
    ∃ R o' cap', ι a.block = some R ∧ (cap = 0 ∨ o' = a.off + R.d) ∧ cap ≤ cap' ∧ len ≤ cap ∧ SpotOk a.spot o' cap cap' R.n ∧ v' = .slice (some ⟨R.r, o', none⟩) len cap' := by
  cases h with
  | slice h ho hc hl hn => exact ⟨_, _, _, h, ho, hc, hl, hn, rfl⟩
/-! ### slices.overlaps -/
def ovP : Prim := fun _ args s => match args with
  | [.slice (some a) _ _, .slice (some b) _ _] => if a.block ≠ b.block ∧ liveCells s a.block = true ∧ liveCells s b.block = true then some (.bool false, s) else none
  | _ => none
theorem live_of {s : St} {b : Nat} (h : liveCells s b = true) : ∃ x c, s.hm.get b = some (.cells (x :: c)) := by
  unfold liveCells at h
  split at h
  · rename_i x c h1; exact ⟨x, c, h1⟩
  · cases h
theorem ov_ok {f : Nat} {fn : Func} {tS tR e : TypeId} {size : Nat} (hf : P.funcs[f]? = some fn) (hn : fn.name ≠ "runtime.NumGoroutine") (hb : fn.body = none) (hx : Extern.findNext fn = none)
    (he : Extern.find fn = some (Extern.SlicesOverlaps.overlaps #[tS, tS] #[tR])) (ht : P.underlying tS = some (.slice e)) (hz : ∀ w, (Go.sizeOf e).run P w = .ok size w) : PrimOk P f ovP := by
  intro fl args s v s' h
  unfold ovP at h
  split at h
  · rename_i a la ca b lb cb
    split at h
    · rename_i hc
      obtain ⟨hne, hA, hB⟩ := hc
      simp only [Option.some.injEq, Prod.mk.injEq] at h
      obtain ⟨rfl, rfl⟩ := h
      refine ⟨Nat.le_refl _, fun ι w args' ha hS hF hfl => ?_⟩
      obtain ⟨a', b', rfl, h1, h2⟩ := vrels2 ha
      obtain ⟨xa, ca', hla⟩ := live_of hA
      obtain ⟨xb, cb', hlb⟩ := live_of hB
      obtain ⟨R1, o1', cap1, hRa, _, _, _, _, rfl⟩ := h1.slice_inv
      obtain ⟨R2, o2', cap2, hRb, _, _, _, _, rfl⟩ := h2.slice_inv
      obtain ⟨rc1, e1, fz1, g1, g2, g3, g4, g5⟩ := hS.hm _ _ _ hla hRa
      obtain ⟨rc2, e2, fz2, k1, k2, k3, k4, k5⟩ := hS.hm _ _ _ hlb hRb
      have hz1 := g5 rfl; subst hz1
      have hz2 := k5 rfl; subst hz2
      have hrr : R1.r ≠ R2.r := fun e => hne (hS.inj _ _ _ _ (by rw [hla]; simp) (.inl (by rw [hlb]; simp)) hRa hRb e)
      have hrun := Lib.run_overlaps_apart (P := P) w tS tR e ht size hz ⟨R1.r, o1', none⟩ ⟨R2.r, o2', none⟩ la cap1 lb cap2 hrr e1 e2 rc1.size rc2.size
        (by simp [World.shape?, g1]) (by simp [World.shape?, k1]) (by simp only [List.length_cons] at k4; omega) (by simp [World.frozen?, g1]) (by simp [World.frozen?, g1])
      have hcall : (callFunc f #[.slice (some ⟨R1.r, o1', none⟩) la cap1, .slice (some ⟨R2.r, o2', none⟩) lb cap2]).run P w = .ok (.value (.bool false)) w := by
        simp [callFunc, hf, hn, hb, hx, he, mark, hrun, Sem.run]
      rw [hcall]
      exact .value ⟨ι, Post.refl hF, hS, fun x hx => by cases hx; exact .bool _⟩
    · cases h
  · cases h
end Go.Ev
set_option linter.unusedSimpArgs false
set_option linter.unusedVariables false
namespace Go.Ev
variable {P : Program}
/-- Insert in the midst: what is there, what comes, what follows. -/
def insMid (fl : Nat) (s : St) (st : Nat) (a : Addr) (len i : Nat) (va : Addr) (m : Nat) : Option (Value × St) := match a.spot with
  | some (q + 1) => if q + 1 = st ∧ fl ≤ a.block ∧ va.block ≠ a.block ∧ len + m < 1073741824 ∧ liveCells s va.block = true then
      match s.hm.get a.block, s.ld a.block a.off (i * st), s.ld a.block (a.off + i * st) ((len - i) * st), s.ld va.block va.off (m * st) with
      | some (.cells _), some A, some B, some V => if B.all scalar = true ∧ V.all scalar = true then some (.slice (some ⟨s.k, 0, some st⟩) (len + m) (len + m), (s.del a.block).new (.cells (A ++ V ++ B))) else none
      | _, _, _, _ => none
    else none
  | _ => none
def okSpot (st : Nat) : Option Addr → Bool
  | none => true
  | some a => match a.spot with
    | none => false
    | some q => q == 0 || q == st
def insP (st bytes : Nat) : Prim := fun fl args s => match args with
  | [.slice base len cap, .int .i64 i, .slice (some va) m mc] =>
    if 0 < m then
      if i = (len : Int) then
        if okSpot st base = true then match appendOp fl s st bytes (.slice base len cap) (.slice (some va) m mc) with
          | some (v, s') => if s.k ≤ s'.k then some (v, s') else none
          | none => none
        else none
      else if 0 ≤ i ∧ i < len then match base with
        | some a => insMid fl s st a len i.toNat va m
        | none => none
      else none
    else none
  | _ => none

theorem Trie.putB_comm {α : Type} (x y : Option α) : ∀ (p q : List Bool) (t : Trie α), p ≠ q → Trie.putB x p (Trie.putB y q t) = Trie.putB y q (Trie.putB x p t) := by
  intro p
  induction p with
  | nil => intro q t h
           cases q with
           | nil => exact absurd rfl h
           | cons b q => cases t <;> cases b <;> simp [Trie.putB]
  | cons a p ih =>
    intro q t h
    cases q with
    | nil => cases t <;> cases a <;> simp [Trie.putB]
    | cons b q =>
      have hl : a = b → ∀ u : Trie α, Trie.putB x p (Trie.putB y q u) = Trie.putB y q (Trie.putB x p u) := fun e u => ih q u (fun e2 => h (by rw [e, e2]))
      cases t <;> cases a <;> cases b <;> simp only [Trie.putB]
      all_goals first
        | rfl
        | (rw [hl rfl]; done)
theorem Trie.set_comm {α : Type} (t : Trie α) {n m : Nat} (x y : Option α) (h : n ≠ m) : (t.set n x).set m y = (t.set m y).set n x :=
  Trie.putB_comm y x _ _ t (fun e => h (Trie.bits_inj e).symm)
theorem Post.left {fl : Nat} {ι ι' : Inj} {s s1 s' : St} {w w' : World} {b : Nat} (h : Post fl ι s1 w ι' s' w') (hk : s1.k = s.k) (hi : s1.hi = s.hi) (hm : ∀ x, x ≠ b → s1.hm.get x = s.hm.get x) (hb : s.hm.get b ≠ none) (hb1 : s1.hm.get b ≠ none) (hfl : fl ≤ b) (hR : ι b ≠ none) (hlt : b < s.k) : Post fl ι s w ι' s' w' where
  k := hk ▸ h.k
  old x hx := h.old x (by rw [hk]; exact hx)
  rng x R h1 h2 h3 := by
    rcases h.rng x R (by rw [hk]; exact h1) h2 h3 with g | ⟨b0, R0, g1, g2, g3, g4⟩
    · exact .inl g
    · refine .inr ⟨b0, R0, g1, g2, g3, ?_⟩
      by_cases e : b0 = b
      · subst e; exact hb
      · rw [← hm b0 e]; exact g4
  size := h.size
  frame r hr H := h.frame r hr fun b0 R hb0 hr0 => by
    rcases H b0 R hb0 hr0 with g | g
    · exact .inl g
    · right
      by_cases e : b0 = b
      · subst e; exact absurd g hb
      · rw [hm b0 e]; exact g
  unreal x hx hn := by
    have e : x ≠ b := fun e => by subst e; exact hR hn
    have := h.unreal x (by rw [hk]; exact hx) hn
    rw [← hm x e, ← hi]; exact this
  flr x hx := by rw [h.flr x hx]; exact hm x (by omega)
  imm x o ho := h.imm x o (by rw [hi]; exact ho)
  dead x hx hn := h.dead x (by rw [hk]; exact hx) (by
    by_cases e : x = b
    · subst e; exact absurd hn hb
    · rw [hm x e]; exact hn)
  wf := h.wf
  same := h.same
theorem ld_cut {s : St} {b o n : Nat} {A c : List Value} (h : s.ld b o n = some A) (hb : s.hm.get b = some (.cells c)) : A = (c.drop o).take n ∧ o + n ≤ c.length ∧ noJ A = true := by
  unfold St.ld at h
  rw [St.get_hm hb] at h
  simp only at h
  split at h
  · rename_i hc
    simp only [Option.some.injEq] at h
    subst h
    exact ⟨rfl, hc.1, hc.2⟩
  · cases h
/-- The same state, of a slice's block known as far as its slice's room reaches. -/
theorem exact_rel {ι : Inj} {s : St} {w : World} {b off n : Nat} {R : Real} {c : List Value} (hS : SRel P ι s w) (hF : Fresh ι s s.k) (hb : s.hm.get b = some (.cells c)) (hR : ι b = some R) (hn : off + n ≤ c.length) (j : Nat) (hj : R.d + off + n + j ≤ R.n) :
    SRel P ι { s with hm := s.hm.set b (some (.cells (c.take (off + n) ++ List.replicate j (.chan none)))) } w := by
  obtain ⟨rc, e, fz, h1, h2, h3, h4, h5⟩ := hS.hm b _ R hb hR
  have hz := h5 rfl; subst hz
  have := upd_rel (P := P) (fl := 0) hS hF hb (Nat.zero_le _) hR (some (.cells (c.take (off + n) ++ List.replicate j (.chan none)))) (.cells rc e (0, 0)) (by
    intro x hx
    injection hx with hx; subst hx
    refine ⟨rc, e, (0, 0), rfl, h2, ?_, by simp; omega, fun _ => rfl⟩
    have hl : rc.toList.length = R.n := by simp [h2]
    have hjl : ((rc.toList.drop (R.d + (off + n))).take j).length = j := by simp only [List.length_take, List.length_drop, hl]; omega
    have hk := (h3.take (off + n)).append (CRels.junks (ι := ι) ((rc.toList.drop (R.d + (off + n))).take j))
    rw [hjl] at hk
    have e : (rc.toList.drop R.d).take (c.take (off + n) ++ List.replicate j (Value.chan none)).length = ((rc.toList.drop R.d).take c.length).take (off + n) ++ (rc.toList.drop (R.d + (off + n))).take j := by
      rw [List.take_take, show min (off + n) c.length = off + n by omega]
      simp only [List.length_append, List.length_take, List.length_replicate, show min (off + n) c.length = off + n by omega]
      rw [List.take_add, List.drop_drop]
    rw [e]; exact hk)
  rw [putObj_self h1] at this
  exact this.2
end Go.Ev
set_option linter.unusedSimpArgs false
set_option linter.unusedVariables false
namespace Go.Ev
variable {P : Program}
def insCfg (st bytes : Nat) (zero : List Value) (f fo fr : Nat) : Cfg := ⟨fun i => if i = f then some (insF st bytes zero fo fr) else none, fun i => if i = fo then some ovP else none, fun _ => false, eqRead⟩
theorem insCfg_ok {st bytes : Nat} {zero : List Value} {f fo fr : Nat} (hm : P.follows .mixedOrders = true) (hF : FunRel P f (insF st bytes zero fo fr)) (ho : PrimOk P fo ovP) : CfgOk P (insCfg st bytes zero f fo fr) where
  mixed := hm
  eqt := eqRead_eq
  funcs := fun g L _ h => by
    have h2 : (if g = f then some (insF st bytes zero fo fr) else none) = some L := h
    by_cases e : g = f
    · rw [if_pos e] at h2; cases h2; rw [e]; exact hF
    · rw [if_neg e] at h2; cases h2
  prim := fun g p h => by
    have h2 : (if g = fo then some ovP else none) = some p := h
    by_cases e : g = fo
    · rw [if_pos e] at h2; cases h2; rw [e]; exact ho
    · rw [if_neg e] at h2; cases h2
theorem VRels.two {ι : Inj} {a b a' b' : Value} (h1 : VRel ι a a') (h2 : VRel ι b b') : VRels ι [a, b] [a', b'] := .cons h1 (.cons h2 .nil)
theorem ld_len {s : St} {b o n : Nat} {A : List Value} (h : s.ld b o n = some A) : A.length = n := by
  unfold St.ld at h
  split at h
  · split at h
    · rename_i hc; simp only [Option.some.injEq] at h; subst h; simp; omega
    · cases h
  · cases h
/-- The midst: room or none. -/
theorem insMid_ok {st bytes : Nat} {zero : List Value} {f fo fr : Nat} (hfo : f ≠ fo) (hz : zero.length = st) (hzs : zero.all scalar = true) (hby : bytes < 65536)
    {fl : Nat} {s : St} {a va : Addr} {len i m cap mc : Nat} {v : Value} {s' : St} (hm : 0 < m) (hi : i < len) (h : insMid fl s st a len i va m = some (v, s'))
    {ι : Inj} {w : World} {x' y' : Value} (hx : VRel ι (.slice (some a) len cap) x') (hy : VRel ι (.slice (some va) m mc) y') (hS : SRel P ι s w) (hF : Fresh ι s s'.k) (hfl : fl ≤ s.k) :
    s'.k = s.k + 1 ∧ ∃ n args1 s1 v1 s1', (mk (insCfg st bytes zero f fo fr) n).v fl (.func (.func f) #[] #[]) args1 s1 = some (v1, s1') ∧ VRels ι args1 [x', .int .i64 i, y'] ∧ SRel P ι s1 w ∧ Fresh ι s1 s1'.k ∧ fl ≤ s1.k ∧
        ∀ ι' w' u, Post fl ι s1 w ι' s1' w' → SRel P ι' s1' w' → VRel ι' v1 u → Fin P fl ι s w (some v) s' u w' := by
  obtain ⟨b, off, spot⟩ := a
  unfold insMid at h
  cases spot with
  | none => simp at h
  | some sp =>
    cases sp with
    | zero => simp at h
    | succ q =>
      simp only at h
      split at h
      · rename_i hc
        obtain ⟨hst, hflb, hne, hbig, hlv⟩ := hc
        split at h
        · rename_i c A B V hb hldA hldB hV
          split at h
          · rename_i hsc
            obtain ⟨hBs, hVs⟩ := hsc
            simp only [Option.some.injEq, Prod.mk.injEq] at h
            obtain ⟨rfl, rfl⟩ := h
            refine ⟨rfl, ?_⟩
            obtain ⟨R, o', cap', hR, ho, hcc, hlc, hsp, rfl⟩ := hx.slice_inv
            obtain ⟨Rv, ov', mc', hRv, hov, hvc, hvl, hvsp, rfl⟩ := hy.slice_inv
            have ho' : o' = off + R.d := ho.resolve_left (by omega)
            have hn : o' + cap' * st ≤ R.n := by rw [← hst]; exact hsp
            have hF0 : Fresh ι s s.k := hF.left (s1 := s) (by simp [St.new, St.del])
            have hF1 : Fresh ι s (s.k + 1) := by simpa [St.new, St.del] using hF
            have hbk := lt_of_live hF0 hb
            obtain ⟨xv, cv, hvb⟩ := live_of hlv
            have hvk := lt_of_live hF0 hvb
            obtain ⟨hA1, hA2, hAj⟩ := ld_cut hldA hb
            obtain ⟨hB1, hB2, hBj⟩ := ld_cut hldB hb
            have hAl := ld_len hldA
            have hBl := ld_len hldB
            have hVl := ld_len hV
            have hmul : i * st + (len - i) * st = len * st := by rw [← Nat.add_mul]; congr 1; omega
            have hmul2 : len * st + (cap' - len) * st = cap' * st := by rw [← Nat.add_mul]; congr 1; omega
            have hcut : c.take (off + len * st) = c.take off ++ A ++ B := by
              rw [hA1, hB1, ← hmul, ← Nat.add_assoc, List.take_add, List.take_add]
            have hXl : (c.take off).length = off := by simp; omega
            obtain ⟨X, hX⟩ : ∃ X, X = c.take off := ⟨_, rfl⟩
            rw [← hX] at hcut hXl
            have hS1 := exact_rel (off := off) (n := len * st) hS hF0 hb hR (by omega) ((cap' - len) * st) (by omega)
            rw [hcut] at hS1
            obtain ⟨JJ, hJJ⟩ : ∃ JJ, JJ = List.replicate ((cap' - len) * st) (Value.chan none) := ⟨_, rfl⟩
            rw [← hJJ] at hS1
            obtain ⟨s1, hs1⟩ : ∃ s1 : St, s1 = { s with hm := s.hm.set b (some (.cells (X ++ A ++ B ++ JJ))) } := ⟨_, rfl⟩
            rw [← hs1] at hS1
            have e1k : s1.k = s.k := by rw [hs1]
            have e1i : s1.hi = s.hi := by rw [hs1]
            have e1m : ∀ y, y ≠ b → s1.hm.get y = s.hm.get y := fun y hy => by rw [hs1]; exact Trie.get_set_ne _ _ hy
            have e1b : s1.hm.get b = some (.cells (X ++ A ++ B ++ JJ)) := by rw [hs1]; exact Trie.get_set_same _ _ _
            have hV1 : s1.ld va.block va.off (m * st) = some V := by rw [hs1, ld_set_ne hne]; exact hV
            have hvx : VRels ι [.slice (some ⟨b, X.length, some 0⟩) len cap', .int .i64 i, .slice (some va) m mc] [.slice (some ⟨R.r, o', none⟩) len cap', .int .i64 i, .slice (some ⟨Rv.r, ov', none⟩) m mc'] :=
              .cons (.slice hR (.inr (by rw [ho', hXl])) (Nat.le_refl _) (by omega) rfl) (.cons (.int _ _) (.cons hy .nil))
            have hp : (insCfg st bytes zero f fo fr).prim f = none := if_neg hfo
            have hf : (insCfg st bytes zero f fo fr).funcs f = some (insF st bytes zero fo fr) := if_pos rfl
            have hov2 : (insCfg st bytes zero f fo fr).prim fo = some ovP := if_pos rfl
            have hmv : m ≤ mc := hvl
            have hbn : s.hm.get b ≠ none := by rw [hb]; simp
            have hbn1 : s1.hm.get b ≠ none := by rw [e1b]; simp
            have hRn : ι b ≠ none := by rw [hR]; simp
            have hXo : X.length + R.d = o' := by rw [hXl, ho']
            by_cases hroom : len + m ≤ cap'
            · -- in place
              have hmul3 : (cap' - len) * st = m * st + (cap' - len - m) * st := by rw [← Nat.add_mul]; congr 1; omega
              have hJ2 : JJ = List.replicate (m * st) (Value.chan none) ++ List.replicate ((cap' - len - m) * st) (Value.chan none) := by
                rw [hJJ, hmul3, List.replicate_append_replicate]
              have hB0 : B ≠ [] := fun e => by
                rw [e] at hBl; simp only [List.length_nil] at hBl
                have : 0 < (len - i) * st := Nat.mul_pos (by omega) (by omega)
                omega
              have hlive : liveCells s1 b = true := by
                unfold liveCells; rw [e1b]
                cases hq : X ++ A ++ B ++ JJ with
                | nil => simp at hq; exact absurd hq.2.2.1 hB0
                | cons _ _ => rfl
              have hlv1 : liveCells s1 va.block = true := by unfold liveCells; rw [e1m _ hne]; exact hlv
              have hrun := insC (C := insCfg st bytes zero f fo fr) (s := s1) (fl := fl) hp hf rfl hov2 b len cap' i va.block va.off m mc va.spot X A B V (List.replicate (m * st) (.chan none)) (List.replicate ((cap' - len - m) * st) (.chan none)) hm hi hroom (by omega) hne hmv
                (by rw [e1b, hJ2]; simp) hAl hBl (by simp) hflb hV1 hVl hBs hVs hBj (fun x l c => by
                  simp only [ovP]; rw [if_pos ⟨hne, hlv1, hlive⟩]) 0
              refine ⟨_, _, s1, _, _, hrun, hvx, hS1, ⟨fun y hy => ?_, fun y h1 h2 => ?_⟩, by rw [e1k]; exact hfl, ?_⟩
              · rw [e1k] at hy; rw [e1m y (by omega), e1i]; exact hF1.wf y hy
              · rw [e1k] at h1; exact absurd h2 (by simp only; omega)
              · intro ι' w' u hP hS' hu
                have hold : ∀ y, ι' y = ι y := fun y => hP.old y (by rw [e1k]; omega)
                have hι : ι' = ι := funext hold
                subst hι
                have hRr := hS'.bnd b R hR
                obtain ⟨ob, hob⟩ : ∃ ob, w'.heap[R.r]? = some ob := ⟨w'.heap[R.r], by simp [hRr]⟩
                have hbm : ({ s1 with hm := s1.hm.set b (some (.cells (X ++ A ++ V ++ B ++ List.replicate ((cap' - len - m) * st) (.chan none)))) } : St).hm.get b = some (.cells (X ++ A ++ V ++ B ++ List.replicate ((cap' - len - m) * st) (.chan none))) := Trie.get_set_same _ _ _
                obtain ⟨rc, e, fz, g1, g2, g3, g4, g5⟩ := hS'.hm b _ R hbm hR
                have hz0 := g5 rfl; subst hz0
                have hFk : Fresh ι' { s1 with hm := s1.hm.set b (some (.cells (X ++ A ++ V ++ B ++ List.replicate ((cap' - len - m) * st) (.chan none)))) } (s1.k + 1) :=
                  ⟨fun y hy => hP.wf y hy, fun y h1 h2 => hF1.io y (by rw [← e1k]; exact h1) (by rw [← e1k]; exact h2)⟩
                have hrl : rc.toList.length = R.n := by simp [g2]
                have hlen2 : (A ++ V ++ B).length = (len + m) * st := by simp only [List.length_append, hAl, hVl, hBl, Nat.add_mul]; omega
                have hfit : (len + m) * st ≤ cap' * st := Nat.mul_le_mul_right _ hroom
                have hrm := remap_rel (P := P) (fl := fl) (R' := ⟨R.r, R.d + X.length, R.n⟩) hS' hFk hbm hflb (by show fl ≤ s1.k; rw [e1k]; exact hfl) hR rfl (.cells (A ++ V ++ B)) (.cells rc e (0, 0)) (by
                  intro ι1 hx1
                  refine ⟨rc, e, (0, 0), rfl, g2, ?_, ?_, fun _ => rfl⟩
                  · have hk := ((g3.mono hx1).drop X.length).take (A ++ V ++ B).length
                    have e1 : ((X ++ A ++ V ++ B ++ List.replicate ((cap' - len - m) * st) (Value.chan none)).drop X.length).take (A ++ V ++ B).length = A ++ V ++ B := by
                      have : X ++ A ++ V ++ B ++ List.replicate ((cap' - len - m) * st) (Value.chan none) = X ++ ((A ++ V ++ B) ++ List.replicate ((cap' - len - m) * st) (Value.chan none)) := by simp
                      rw [this, List.drop_left, List.take_left]
                    rw [e1, List.drop_take, List.take_take, List.drop_drop] at hk
                    rw [Nat.min_eq_left (by simp only [List.length_append]; omega)] at hk
                    exact hk
                  · rw [hlen2]; simp only; omega)
                rw [putObj_self g1] at hrm
                obtain ⟨hrm1, hrm2⟩ := hrm
                have hst' : (St.del { s1 with hm := s1.hm.set b (some (.cells (X ++ A ++ V ++ B ++ List.replicate ((cap' - len - m) * st) (.chan none)))) } b).new (.cells (A ++ V ++ B)) = (s.del b).new (.cells (A ++ V ++ B)) := by
                  rw [hs1]; simp only [St.del, St.new, Trie.set_set]
                rw [hst'] at hrm1 hrm2
                have hP2 := hP.left e1k e1i e1m hbn hbn1 hflb hRn hbk
                refine ⟨_, hP2.trans hrm1, hrm2, ?_⟩
                intro y hy
                injection hy with hy; subst hy
                obtain ⟨R2, o2, cap2, hR2, ho2, hc2, hl2, hsp2, rfl⟩ := hu.slice_inv
                simp only at hR2
                rw [hR] at hR2; injection hR2 with hR2; subst hR2
                have hcap2 : cap' = cap2 := hsp2
                subst hcap2
                have ho3 : o2 = X.length + R.d := ho2.resolve_left (by omega)
                refine .slice (R := ⟨R.r, R.d + X.length, R.n⟩) (by simp [e1k]) (.inr (by simp only; omega)) hroom (Nat.le_refl _) ?_
                subst hst
                show o2 + cap' * (q + 1) ≤ R.n
                omega
            · -- a new row
              have hrun := insB (C := insCfg st bytes zero f fo fr) (s := s1) (fl := fl) hp hf rfl b len cap' i va.block va.off m mc va.spot X A B V JJ hst.symm hz hzs hby hm hi (by omega) (by omega) hbig hmv e1b hAl hBl (by rw [e1k]; exact hfl) (by rw [e1k]; omega) (by rw [e1k]; omega) hV1 hVl hBs hVs hBj hAj 0
              refine ⟨_, _, s1, _, _, hrun, hvx, hS1, ⟨fun y hy => ?_, fun y h1 h2 => ?_⟩, by rw [e1k]; exact hfl, ?_⟩
              · rw [e1k] at hy; rw [e1m y (by omega), e1i]; exact hF1.wf y hy
              · simp only [St.new, e1k] at h1 h2; exact hF1.io y h1 h2
              · intro ι' w' u hP hS' hu
                have hbm : (s1.new (.cells (A ++ V ++ B))).hm.get b = some (.cells (X ++ A ++ B ++ JJ)) := by
                  show (s1.hm.set s1.k _).get b = _
                  rw [Trie.get_set_ne _ _ (by rw [e1k]; omega)]; exact e1b
                have hRb : ι' b = some R := by rw [hP.old b (.inl (by rw [e1k]; exact hbk))]; exact hR
                have hFk : Fresh ι' (s1.new (.cells (A ++ V ++ B))) (s1.new (.cells (A ++ V ++ B))).k := ⟨hP.wf, fun y h1 h2 => by omega⟩
                obtain ⟨hd1, hd2⟩ := del_rel (P := P) (fl := fl) hS' hFk hbm hflb hRb
                have hst' : (s1.new (.cells (A ++ V ++ B))).del b = (s.del b).new (.cells (A ++ V ++ B)) := by
                  rw [hs1]
                  simp only [St.del, St.new]
                  rw [Trie.set_comm _ _ _ (show s.k ≠ b by omega), Trie.set_set]
                rw [hst'] at hd1 hd2
                have hP2 := hP.left e1k e1i e1m hbn hbn1 hflb hRn hbk
                refine ⟨_, hP2.trans hd1, hd2, ?_⟩
                intro y hy
                injection hy with hy; subst hy
                rw [e1k] at hu
                exact hu
          · cases h
        · cases h
      · cases h
end Go.Ev
set_option linter.unusedSimpArgs false
set_option linter.unusedVariables false
namespace Go.Ev
variable {P : Program}
theorem ins_ok {st bytes : Nat} {zero : List Value} {f fo fr : Nat} (hm : P.follows .mixedOrders = true) (hF : FunRel P f (insF st bytes zero fo fr)) (ho : PrimOk P fo ovP) (hfo : f ≠ fo) (hz : zero.length = st) (hzs : zero.all scalar = true) (hby : bytes < 65536) : PrimOk P f (insP st bytes) := by
  refine prim_via (insCfg_ok hm hF ho) ?_
  intro fl args s v s' h
  unfold insP at h
  split at h
  · rename_i base len cap i va m mc
    split at h
    · rename_i hm0
      split at h
      · rename_i hi
        split at h
        · rename_i hsp
          split at h
          · rename_i v1 s1 ha
            split at h
            · rename_i hk
              simp only [Option.some.injEq, Prod.mk.injEq] at h
              obtain ⟨rfl, rfl⟩ := h
              refine ⟨hk, fun ι w args' hx hS hFr hfl => ?_⟩
              subst hi
              obtain ⟨l⟩ := args'
              have hlc : len ≤ cap := by
                cases hx with
                | cons h1 _ =>
                  cases base with
                  | none => cases h1 with | sliceNil _ _ h => exact h
                  | some a => obtain ⟨_, _, _, _, _, _, h, _⟩ := h1.slice_inv; exact h
              have hp : (insCfg st bytes zero f fo fr).prim f = none := if_neg hfo
              have hf : (insCfg st bytes zero f fo fr).funcs f = some (insF st bytes zero fo fr) := if_pos rfl
              have hrun := insA (C := insCfg st bytes zero f fo fr) (s := s) (fl := fl) hp hf rfl base len cap (some va) m mc hm0 hlc (fun a e => by
                subst e
                unfold okSpot at hsp
                simp only at hsp
                cases hq : a.spot with
                | none => rw [hq] at hsp; cases hsp
                | some q =>
                  rw [hq] at hsp
                  simp only [Bool.or_eq_true, beq_iff_eq] at hsp
                  exact ⟨q, rfl, hsp⟩) ha 0
              exact ⟨_, _, s, _, _, hrun, hx, hS, hFr, hfl, fun ι' w' u h1 h2 h3 => ⟨ι', h1, h2, fun x e => by cases e; exact h3⟩⟩
            · cases h
          · cases h
        · cases h
      · split at h
        · rename_i hne hi
          cases base with
          | none => cases h
          | some a =>
            simp only at h
            obtain ⟨j, hj⟩ : ∃ j : Nat, i = (j : Int) := ⟨i.toNat, by omega⟩
            subst hj
            rw [Int.toNat_natCast] at h
            have hk : s.k ≤ s'.k := by
              unfold insMid at h
              split at h
              · split at h
                · split at h
                  · split at h
                    · simp only [Option.some.injEq, Prod.mk.injEq] at h
                      obtain ⟨_, rfl⟩ := h
                      simp [St.new, St.del]
                    · cases h
                  · cases h
                · cases h
              · cases h
            refine ⟨hk, fun ι w args' hx hS hFr hfl => ?_⟩
            obtain ⟨l⟩ := args'
            cases hx with
            | cons h1 t =>
              cases t with
              | cons h2 t =>
                cases t with
                | cons h3 t =>
                  cases t
                  obtain rfl := h2.int_inv
                  exact (insMid_ok (P := P) hfo hz hzs hby hm0 (by omega) h h1 h3 hS hFr hfl).2
        · cases h
    · cases h
  · cases h
end Go.Ev
/- Functions whose contract leaves the memory that was there as it is. -/
set_option linter.unusedSimpArgs false
set_option linter.unusedVariables false
namespace Go.Ev
variable {P : Program}
theorem below_rel {fl : Nat} {ι : Inj} {s : St} {w w' : World} (h : RowKit.Below w.heap.size w w') (hS : SRel P ι s w) (hF : Fresh ι s s.k) : Post fl ι s w ι s w' ∧ SRel P ι s w' := by
  obtain ⟨h1, h2, h3, h4, h5⟩ := h
  have hh : ∀ b R, ι b = some R → w'.heap[R.r]? = w.heap[R.r]? := fun b R hR => h5 _ (hS.bnd b R hR)
  refine ⟨⟨Nat.le_refl _, fun _ _ => rfl, fun b R g1 g2 => by omega, h4, fun r hr _ => h5 r hr, fun _ _ _ => ⟨rfl, rfl⟩, fun _ _ => rfl, fun _ _ h => h, fun _ _ h => h, hF.wf, h1, h2, h3⟩, ⟨fun b o R ho hR => ?_, fun b o R ho hR => ?_, hS.inj, fun b R hR => Nat.lt_of_lt_of_le (hS.bnd b R hR) h4, hS.dis⟩⟩
  · rw [hh b R hR]; exact hS.hm b o R ho hR
  · rw [hh b R hR]; exact hS.hi b o R ho hR
theorem prim_below {f : Nat} {fn : Func} {c : Code} (hf : P.funcs[f]? = some fn) (hb : fn.body = some c) (hn : fn.name ≠ "runtime.NumGoroutine") {p : Prim}
    (H : ∀ fl args s v s', p fl args s = some (v, s') → s' = s ∧ ∀ ι w (args' : Array Value), VRels ι args args'.toList → SRel P ι s w → ∃ u, VRel ι v u ∧ Calls P f args' w fun e w' => e = .returned u ∧ RowKit.Below w.heap.size w w') : PrimOk P f p := by
  intro fl args s v s' h
  obtain ⟨rfl, hg⟩ := H fl args s v s' h
  refine ⟨Nat.le_refl _, fun ι w args' ha hS hF hfl => ?_⟩
  obtain ⟨u, hu, hc⟩ := hg ι w args' ha hS
  rw [callFunc_run hf hb hn]
  refine .enter ((callsIn_wide.2 hc).mono ?_)
  rintro e w' ⟨rfl, hw⟩
  obtain ⟨h1, h2⟩ := below_rel (fl := fl) hw hS hF
  exact ⟨u, rfl, ι, h1, h2, fun x hx => by cases hx; exact hu⟩
/-- A closed test whose answer is known. -/
def boolP (b : Bool) : Prim := fun _ args s => match args with
  | [] => some (.bool b, s)
  | _ => none
theorem bool_ok {f : Nat} {fn : Func} {c : Code} (hf : P.funcs[f]? = some fn) (hb : fn.body = some c) (hn : fn.name ≠ "runtime.NumGoroutine") {b : Bool} (H : ∀ w, Calls P f #[] w fun e w' => e = .returned (.bool b) ∧ RowKit.Below w.heap.size w w') : PrimOk P f (boolP b) := by
  refine prim_below hf hb hn ?_
  intro fl args s v s' h
  unfold boolP at h
  split at h
  · simp only [Option.some.injEq, Prod.mk.injEq] at h
    obtain ⟨rfl, rfl⟩ := h
    refine ⟨rfl, fun ι w args' ha hS => ⟨_, .bool b, ?_⟩⟩
    obtain ⟨l⟩ := args'
    cases ha
    exact H w
  · cases h
/-! ### strings.Join -/
def strsOf : List Value → Option (List ByteArray)
  | [] => some []
  | .string b :: r => match strsOf r with
    | some l => some (b :: l)
    | none => none
  | _ => none
def sumLen : List ByteArray → Nat
  | [] => 0
  | b :: r => b.data.toList.length + sumLen r
def joinP : Prim := fun _ args s => match args with
  | [.slice (some a) len _, .string sep] => match s.ld a.block a.off len with
    | some vs => match strsOf vs with
      | some xs => if len < 1073741824 ∧ (Lib.join (xs.map (·.data.toList)) sep.data.toList).length < 1073741824 then some (.string ⟨(Lib.join (xs.map (·.data.toList)) sep.data.toList).toArray⟩, s) else none
      | none => none
    | none => none
  | [.slice none 0 _, .string _] => some (.string ⟨#[]⟩, s)
  | _ => none
theorem strsOf_rel {ι : Inj} : ∀ {vs vs' : List Value} {xs : List ByteArray}, strsOf vs = some xs → VRels ι vs vs' → xs.length = vs.length ∧ ∀ (j : Nat) (x : ByteArray), xs[j]? = some x → vs'[j]? = some (Value.string x)
  | [], _, xs, h, .nil => by
    simp only [strsOf, Option.some.injEq] at h; subst h
    exact ⟨rfl, fun j x hj => by simp at hj⟩
  | v :: vs, _, xs, h, .cons h1 t => by
    cases v with
    | string b =>
      simp only [strsOf] at h
      split at h
      · rename_i l hl
        simp only [Option.some.injEq] at h
        subst h
        obtain ⟨g1, g2⟩ := strsOf_rel hl t
        obtain rfl := h1.str_inv
        refine ⟨by simp [g1], fun j x hj => ?_⟩
        cases j with
        | zero => simp at hj; subst hj; rfl
        | succ j => simpa using g2 j x (by simpa using hj)
      · cases h
    | _ => simp [strsOf] at h
theorem join_ok {f : Nat} {fn : Func} {c : Code} (hf : P.funcs[f]? = some fn) (hb : fn.body = some c) (hn : fn.name ≠ "runtime.NumGoroutine")
    (J : ∀ (bk o c : Nat) (xs : List ByteArray) (sep : ByteArray) (w : World), (∀ (j : Nat) x, xs[j]? = some x → w.cell? ⟨bk, o + j, none⟩ = some (.string x)) → bk < w.heap.size → xs.length ≤ 140737488355328 → xs.length ≤ c →
      (Lib.join (xs.map (·.data.toList)) sep.data.toList).length ≤ 140737488355328 →
      Calls P f #[.slice (some ⟨bk, o, none⟩) xs.length c, .string sep] w fun e w' => e = .returned (.string ⟨(Lib.join (xs.map (·.data.toList)) sep.data.toList).toArray⟩) ∧ RowKit.Below w.heap.size w w')
    (J0 : ∀ (a : Option Addr) (c : Nat) (sep : ByteArray) (w : World), Calls P f #[.slice a 0 c, .string sep] w fun e w' => e = .returned (.string ⟨#[]⟩) ∧ w' = w) : PrimOk P f joinP := by
  refine prim_below hf hb hn ?_
  intro fl args s v s' h
  unfold joinP at h
  split at h
  · rename_i a len cap sep
    split at h
    · rename_i vs hld
      split at h
      · rename_i xs hxs
        split at h
        · rename_i hc
          simp only [Option.some.injEq, Prod.mk.injEq] at h
          obtain ⟨rfl, rfl⟩ := h
          refine ⟨rfl, fun ι w args' ha hS => ⟨_, .string _, ?_⟩⟩
          obtain ⟨x', y', rfl, h1, h2⟩ := vrels2 ha
          obtain rfl := h2.str_inv
          cases h1 with
          | slice hR ho hcc hlc hsp =>
            rename_i b o o' sp cap' R
            obtain ⟨c', g1, g2, g3, g4⟩ := ld_rel hS hld hR
            obtain ⟨k1, k2⟩ := strsOf_rel hxs g1
            by_cases h0 : len = 0
            · have hx0 : xs = [] := List.length_eq_zero_iff.1 (by rw [k1, g3, h0])
              subst h0; subst hx0
              exact (J0 _ cap' sep w).mono fun e w' ⟨he, hw⟩ => ⟨he, hw ▸ RowKit.Below.refl _ _⟩
            · have ho' : o' = o + R.d := ho.resolve_left (by omega)
              have hl : xs.length = len := by rw [k1, g3]
              have := J R.r o' cap' xs sep w (fun j x hj => by rw [ho']; exact g4 j _ (k2 j x hj)) (hS.bnd _ _ hR) (by omega) (by omega) (by omega)
              rw [hl] at this
              exact this
        · cases h
      · cases h
    · cases h
  · rename_i cap sep
    simp only [Option.some.injEq, Prod.mk.injEq] at h
    obtain ⟨rfl, rfl⟩ := h
    refine ⟨rfl, fun ι w args' ha hS => ⟨_, .string _, ?_⟩⟩
    obtain ⟨x', y', rfl, h1, h2⟩ := vrels2 ha
    obtain rfl := h2.str_inv
    cases h1
    exact (J0 _ _ sep w).mono fun e w' ⟨he, hw⟩ => ⟨he, hw ▸ RowKit.Below.refl _ _⟩
  · cases h
end Go.Ev
