import Derived.Test.YtojbggomekgkcaaGreatEvD
import Derived.Test.YtojbggomekgkcaaGreatEvE
/- An evaluator of the program's functions, and that it is sound: part of the proof. -/
set_option linter.unusedVariables false
set_option linter.unusedSimpArgs false
/- The evaluator once more, so written that the kernel runs it fast: all dispatch by recursors whose branches are closed. -/
set_option linter.unusedVariables false
namespace Go.Ev
noncomputable section
namespace Fast
def tget (d : Option Value) (i : Nat) (T : Tmps) : Option Value := List.rec (motive := fun _ => Option Value) d (fun p _ ih => Bool.rec (motive := fun _ => Option Value) ih (some p.2) (Nat.beq p.1 i)) T
def look (e : Env) (i : Nat) : Option Value := Env.rec (motive := fun _ => Nat → Option Value) (fun L T i => tget (tget none i T) i L) e i
def ev (x : Operand) (e : Env) : Option Value := Operand.rec (motive := fun _ => Env → Option Value) (fun t e => look e t) (fun v _ => some v) (fun _ _ => none) (fun f _ => some (.func (.func f) #[] #[])) x e
def evs (xs : List Operand) (e : Env) : Option (List Value) := List.rec (motive := fun _ => Env → Option (List Value)) (fun _ => some [])
  (fun x _ ih e => Option.rec (motive := fun _ => Option (List Value) → Option (List Value)) (fun _ => none) (fun v r => Option.rec (motive := fun _ => Option (List Value)) none (fun vs => some (v :: vs)) r) (ev x e) (ih e)) xs e
def tput (T : Tmps) (i : Nat) (v : Value) : Tmps := List.rec (motive := fun _ => Tmps) [(i, v)]
  (fun p r ih => Bool.rec (motive := fun _ => Tmps) (Bool.rec (motive := fun _ => Tmps) (p :: ih) ((i, v) :: p :: r) (Nat.ble (Nat.succ i) p.1)) ((i, v) :: r) (Nat.beq p.1 i)) T
def putS (loc : Bool) (d : Nat) (v : Value) (e : Env) : Env := Env.rec (motive := fun _ => Bool → Nat → Value → Env) (fun L T loc d v => Bool.rec (motive := fun _ => Tmps → Tmps → Nat → Value → Env) (fun L T d v => ⟨L, tput T d v⟩) (fun L T d v => ⟨(d, v) :: L, T⟩) loc L T d v) e loc d v
def putD (dst : Option Nat) (loc : Bool) (v : Option Value) (e : Env) : Env := Option.rec (motive := fun _ => Bool → Option Value → Env → Env) (fun _ _ e => e)
  (fun d loc v e => Option.rec (motive := fun _ => Nat → Bool → Env → Env) (fun d loc e => Ev.putD e loc (some d) none) (fun v d loc e => putS loc d v e) v d loc e) dst loc v e

theorem tget_eq (d : Option Value) (i : Nat) (T : Tmps) : tget d i T = (Tget T i).or d := by
  induction T with
  | nil => cases d <;> rfl
  | cons p r ih =>
    obtain ⟨j, v⟩ := p
    show Bool.rec (motive := fun _ => Option Value) (tget d i r) (some v) (Nat.beq j i) = _
    rw [ih]
    simp only [Tget]
    cases Nat.beq j i <;> simp
theorem look_eq (e : Env) (i : Nat) : look e i = e.look i := by
  show tget (tget none i e.T) i e.L = _
  unfold Env.look
  rw [tget_eq, tget_eq]
  cases Tget e.L i <;> simp
theorem ev_eq (x : Operand) (e : Env) : ev x e = Ev.ev e x := by
  cases x <;> first | rfl | exact look_eq e _
theorem evs_eq (e : Env) : ∀ (xs : List Operand), evs xs e = Ev.evs e xs
  | [] => rfl
  | x :: xs => by
    show Option.rec (motive := fun _ => Option (List Value) → Option (List Value)) (fun _ => none) (fun v r => Option.rec (motive := fun _ => Option (List Value)) none (fun vs => some (v :: vs)) r) (ev x e) (evs xs e) = _
    rw [ev_eq, evs_eq e xs]
    simp only [Ev.evs]
    cases Ev.ev e x with
    | none => rfl
    | some v => cases Ev.evs e xs <;> rfl
theorem tput_eq (T : Tmps) (i : Nat) (v : Value) : tput T i v = Tput T i v := by
  induction T with
  | nil => rfl
  | cons p r ih =>
    obtain ⟨j, u⟩ := p
    show Bool.rec (motive := fun _ => Tmps) (Bool.rec (motive := fun _ => Tmps) ((j, u) :: tput r i v) ((i, v) :: (j, u) :: r) (Nat.blt i j)) ((i, v) :: r) (Nat.beq j i) = _
    rw [ih]
    simp only [Tput]
    cases Nat.beq j i <;> simp
    cases Nat.blt i j <;> simp
theorem putD_eq (dst : Option Nat) (loc : Bool) (v : Option Value) (e : Env) : putD dst loc v e = Ev.putD e loc dst v := by
  cases dst with
  | none => cases v <;> rfl
  | some d =>
    cases v with
    | none => rfl
    | some v => cases loc <;> simp [putD, putS, Ev.putD, tput_eq]

/-! ### Views of a value -/
def vbool (v : Value) : Option Bool := Value.rec (motive_1 := fun _ => Option Bool) (motive_2 := fun _ => PUnit) (motive_3 := fun _ => PUnit) (fun b => some b) (fun _ _ => none) (fun _ _ => none) (fun _ _ _ => none) (fun _ => none) (fun _ => none) (fun _ _ _ => none) (fun _ => none) (fun _ => none)
  (fun _ _ _ _ _ => none) none (fun _ _ _ => none) none (fun _ _ => none) (fun _ _ => none) (fun _ _ => ⟨⟩) ⟨⟩ (fun _ _ _ _ => ⟨⟩) v
def vint (v : Value) : Option (IntKind × Int) := Value.rec (motive_1 := fun _ => Option (IntKind × Int)) (motive_2 := fun _ => PUnit) (motive_3 := fun _ => PUnit) (fun b => none) (fun k n => some (k, n)) (fun _ _ => none) (fun _ _ _ => none) (fun _ => none) (fun _ => none) (fun _ _ _ => none) (fun _ => none) (fun _ => none)
  (fun _ _ _ _ _ => none) none (fun _ _ _ => none) none (fun _ _ => none) (fun _ _ => none) (fun _ _ => ⟨⟩) ⟨⟩ (fun _ _ _ _ => ⟨⟩) v
def vptr (v : Value) : Option Addr := Value.rec (motive_1 := fun _ => Option Addr) (motive_2 := fun _ => PUnit) (motive_3 := fun _ => PUnit) (fun b => none) (fun k n => none) (fun _ _ => none) (fun _ _ _ => none) (fun _ => none) (fun a => a) (fun _ _ _ => none) (fun _ => none) (fun _ => none)
  (fun _ _ _ _ _ => none) none (fun _ _ _ => none) none (fun _ _ => none) (fun _ _ => none) (fun _ _ => ⟨⟩) ⟨⟩ (fun _ _ _ _ => ⟨⟩) v
def vsl (v : Value) : Option (Option Addr × Nat × Nat) := Value.rec (motive_1 := fun _ => Option (Option Addr × Nat × Nat)) (motive_2 := fun _ => PUnit) (motive_3 := fun _ => PUnit) (fun b => none) (fun k n => none) (fun _ _ => none) (fun _ _ _ => none) (fun _ => none) (fun a => none) (fun a l c => some (a, l, c)) (fun _ => none) (fun _ => none)
  (fun _ _ _ _ _ => none) none (fun _ _ _ => none) none (fun _ _ => none) (fun _ _ => none) (fun _ _ => ⟨⟩) ⟨⟩ (fun _ _ _ _ => ⟨⟩) v
def vagg (v : Value) : Option (List Value) := Value.rec (motive_1 := fun _ => Option (List Value)) (motive_2 := fun _ => PUnit) (motive_3 := fun _ => PUnit) (fun b => none) (fun k n => none) (fun _ _ => none) (fun _ _ _ => none) (fun _ => none) (fun a => none) (fun a l c => none) (fun _ => none) (fun _ => none)
  (fun _ _ _ _ _ => none) none (fun _ _ _ => none) none (fun c _ => some c.toList) (fun _ _ => none) (fun _ _ => ⟨⟩) ⟨⟩ (fun _ _ _ _ => ⟨⟩) v
/-! ### Numbers -/
def kidx (k : IntKind) : Nat := IntKind.rec (motive := fun _ => Nat) 0 1 2 3 4 5 6 7 k
def iadd (a b : Int) : Int := Int.rec (motive := fun _ => Int → Int) (fun m b => Int.rec (motive := fun _ => Nat → Int) (fun n m => .ofNat (Nat.add m n)) (fun n m => Int.add (.ofNat m) (.negSucc n)) b m) (fun m b => Int.add (.negSucc m) b) a b
theorem iadd_eq (a b : Int) : iadd a b = a + b := by cases a <;> cases b <;> rfl
/-- m ≤ n, of numbers below nought the slow way. -/
def ile (a b : Int) : Bool := Int.rec (motive := fun _ => Int → Bool) (fun m b => Int.rec (motive := fun _ => Nat → Bool) (fun n m => Nat.ble m n) (fun _ _ => false) b m) (fun m b => Int.rec (motive := fun _ => Nat → Bool) (fun _ _ => true) (fun n m => Nat.ble n m) b m) a b
theorem ile_eq (a b : Int) : ile a b = decide (a ≤ b) := by
  cases a with
  | ofNat m =>
    cases b with
    | ofNat n => show Nat.ble m n = _; rw [Bool.eq_iff_iff]; simp
    | negSucc n => show false = _; symm; simp; omega
  | negSucc m =>
    cases b with
    | ofNat n => show true = _; symm; simp; omega
    | negSucc n => show Nat.ble n m = _; rw [Bool.eq_iff_iff]; simp; omega
def ieq (a b : Int) : Bool := Int.rec (motive := fun _ => Int → Bool) (fun m b => Int.rec (motive := fun _ => Nat → Bool) (fun n m => Nat.beq m n) (fun _ _ => false) b m) (fun m b => Int.rec (motive := fun _ => Nat → Bool) (fun _ _ => false) (fun n m => Nat.beq m n) b m) a b
theorem ieq_eq (a b : Int) : ieq a b = (a == b) := by
  cases a with
  | ofNat m =>
    cases b with
    | ofNat n => show Nat.beq m n = _; rw [Bool.eq_iff_iff]; simp; omega
    | negSucc n => show false = _; symm; simp
  | negSucc m =>
    cases b with
    | ofNat n => show false = _; symm; simp
    | negSucc n => show Nat.beq m n = _; rw [Bool.eq_iff_iff]; simp [Int.negSucc_inj]
def wrap64 (n : Int) : Int := Int.rec (motive := fun _ => Int) (fun m => Bool.rec (motive := fun _ => Nat → Int) (fun m => wrapI .i64 (.ofNat m)) (fun m => .ofNat m) (Nat.ble m 9223372036854775807) m) (fun m => wrapI .i64 (.negSucc m)) n
theorem wrap64_eq (n : Int) : wrap64 n = wrapI .i64 n := by
  cases n with
  | negSucc m => rfl
  | ofNat m =>
    show Bool.rec (motive := fun _ => Nat → Int) (fun m => wrapI .i64 (.ofNat m)) (fun m => .ofNat m) (Nat.ble m 9223372036854775807) m = _
    cases h : Nat.ble m 9223372036854775807 with
    | false => rfl
    | true =>
      have hm : m ≤ 9223372036854775807 := Nat.le_of_ble_eq_true h
      show (Int.ofNat m) = _
      unfold wrapI
      simp only
      rw [if_pos ⟨by simp only [Int.ofNat_eq_natCast]; omega, by simp only [Int.ofNat_eq_natCast]; omega⟩]
def wrapk (k : IntKind) (n : Int) : Int := Bool.rec (motive := fun _ => IntKind → Int → Int) (fun k n => wrapI k n) (fun _ n => wrap64 n) (Nat.beq (kidx k) 3) k n
theorem wrapk_eq (k : IntKind) (n : Int) : wrapk k n = wrapI k n := by
  cases k <;> first | rfl | exact wrap64_eq n
/-- A test or a sum of two numbers of one kind. -/
def ibin (op : BinOp) (k : IntKind) (a b : Int) : Option Value := BinOp.rec (motive := fun _ => IntKind → Int → Int → Option Value)
  (fun k a b => some (.int k (wrapk k (iadd a b)))) (fun k a b => intOp .sub k a b) (fun k a b => intOp .mul k a b) (fun k a b => intOp .quo k a b) (fun k a b => intOp .rem k a b)
  (fun k a b => intOp .and k a b) (fun k a b => intOp .or k a b) (fun k a b => intOp .xor k a b) (fun k a b => intOp .shl k a b) (fun k a b => intOp .shr k a b) (fun k a b => intOp .andNot k a b)
  (fun k a b => some (.bool (ieq a b))) (fun k a b => some (.bool (Bool.rec (motive := fun _ => Bool) true false (ieq a b))))
  (fun k a b => some (.bool (Bool.rec (motive := fun _ => Bool) true false (ile b a)))) (fun k a b => some (.bool (ile a b)))
  (fun k a b => some (.bool (Bool.rec (motive := fun _ => Bool) true false (ile a b)))) (fun k a b => some (.bool (ile b a))) op k a b
theorem ibin_eq (op : BinOp) (k : IntKind) (a b : Int) : ibin op k a b = intOp op k a b := by
  cases op <;> simp only [ibin, intOp, wrapk_eq, iadd_eq, ieq_eq, ile_eq]
  · cases h : a == b <;> simp_all
  · by_cases h : b ≤ a
    · have : ¬ a < b := by omega
      simp [h, this]
    · have : a < b := by omega
      simp [h, this]
  · by_cases h : a ≤ b
    · have : ¬ a > b := by omega
      simp [h, this]
    · have : a > b := by omega
      simp [h, this]
def shiftB (op : BinOp) : Bool := BinOp.rec (motive := fun _ => Bool) false false false false false false false false true true false false false false false false false op
def bin (s : St) (op : BinOp) (q : EqK) (x y : Value) : Option Value :=
  Option.rec (motive := fun _ => St → BinOp → EqK → Value → Value → Option Value) (fun s op q x y => binOp s op q x y)
    (fun p s op q x y => Option.rec (motive := fun _ => (IntKind × Int) → St → BinOp → EqK → Value → Value → Option Value) (fun _ s op q x y => binOp s op q x y)
      (fun r p s op q x y => Bool.rec (motive := fun _ => (IntKind × Int) → (IntKind × Int) → St → BinOp → EqK → Value → Value → Option Value) (fun _ _ s op q x y => binOp s op q x y) (fun p r _ op _ _ _ => ibin op p.1 p.2 r.2)
        (Bool.rec (motive := fun _ => Bool) (Nat.beq (kidx p.1) (kidx r.1)) false (shiftB op)) p r s op q x y) (vint y) p s op q x y) (vint x) s op q x y
theorem kidx_eq (j k : IntKind) : Nat.beq (kidx j) (kidx k) = decide (j = k) := by cases j <;> cases k <;> rfl
theorem bin_eq (s : St) (op : BinOp) (q : EqK) (x y : Value) : bin s op q x y = binOp s op q x y := by
  cases x with
  | int j a =>
    cases y with
    | int j' b =>
      show Bool.rec (motive := fun _ => (IntKind × Int) → (IntKind × Int) → St → BinOp → EqK → Value → Value → Option Value) (fun _ _ s op q x y => binOp s op q x y) (fun p r _ op _ _ _ => ibin op p.1 p.2 r.2)
        (Bool.rec (motive := fun _ => Bool) (Nat.beq (kidx j) (kidx j')) false (shiftB op)) (j, a) (j', b) s op q (.int j a) (.int j' b) = _
      rw [kidx_eq]
      by_cases h : j = j'
      · subst h
        cases op <;> simp only [decide_true, shiftB] <;> first | rfl | (rw [ibin_eq]; simp [binOp])
      · rw [show decide (j = j') = false from decide_eq_false h]
        cases op <;> rfl
    | _ => rfl
  | _ => rfl
/-! ### Reading and writing -/
def tfind (t : Trie LObj) (n : Nat) : Option LObj := Trie.rec (motive := fun _ => Nat → Option LObj) (fun _ => none)
  (fun v _ _ l r n => Bool.rec (motive := fun _ => Option LObj) (Bool.rec (motive := fun _ => Option LObj) (r (Nat.div n 2)) (l (Nat.div n 2)) (Nat.beq (Nat.mod n 2) 0)) v (Nat.beq n 0)) t n
theorem bits_pos (f n : Nat) (h : n ≠ 0) (hf : n ≤ f) : Trie.bits f n = Nat.beq (n % 2) 1 :: Trie.bits (n / 2) (n / 2) := by
  have key : ∀ (f g n : Nat), n ≤ f → n ≤ g → Trie.bits f n = Trie.bits g n := by
    intro f
    induction f with
    | zero => intro g n h1 h2; have : n = 0 := by omega
              subst this; cases g <;> rfl
    | succ f ih =>
      intro g n h1 h2
      cases n with
      | zero => cases g <;> rfl
      | succ n =>
        cases g with
        | zero => omega
        | succ g =>
          simp only [Trie.bits]
          rw [ih g ((n + 1) / 2) (by omega) (by omega)]
  cases f with
  | zero => omega
  | succ f =>
    cases n with
    | zero => exact absurd rfl h
    | succ n =>
      simp only [Trie.bits]
      rw [key f ((n + 1) / 2) ((n + 1) / 2) (by omega) (Nat.le_refl _)]
theorem tfind_eq (t : Trie LObj) : ∀ n, tfind t n = t.get n := by
  induction t with
  | leaf => intro n; rw [Trie.get_leaf]; rfl
  | node v l r hl hr =>
    intro n
    show Bool.rec (motive := fun _ => Option LObj) (Bool.rec (motive := fun _ => Option LObj) (tfind r (Nat.div n 2)) (tfind l (Nat.div n 2)) (Nat.beq (Nat.mod n 2) 0)) v (Nat.beq n 0) = _
    rw [hl, hr]
    by_cases h : n = 0
    · subst h; rfl
    · rw [show Nat.beq n 0 = false from by rw [nbeq]; simp [h]]
      unfold Trie.get
      rw [bits_pos n n h (Nat.le_refl _)]
      show Bool.rec (motive := fun _ => Option LObj) (r.findB (Trie.bits (n / 2) (n / 2))) (l.findB (Trie.bits (n / 2) (n / 2))) (Nat.beq (n % 2) 0) = _
      rcases Nat.mod_two_eq_zero_or_one n with e | e
      · rw [e]; simp [Trie.findB, nbeq]
      · rw [e]; simp [Trie.findB, nbeq]
def sget (s : St) (b : Nat) : Option LObj := Option.rec (motive := fun _ => St → Nat → Option LObj) (fun s b => tfind s.hi b) (fun o _ _ => some o) (tfind s.hm b) s b
theorem sget_eq (s : St) (b : Nat) : sget s b = s.get b := by
  unfold sget St.get
  rw [tfind_eq]
  cases s.hm.get b with
  | none => exact tfind_eq _ _
  | some o => rfl
def ocells (o : Option LObj) : Option (List Value) := Option.rec (motive := fun _ => Option (List Value)) none (fun o => LObj.rec (motive := fun _ => Option (List Value)) (fun c => some c) (fun _ => none) (fun _ _ _ _ _ _ _ => none) o) o
def ldrop (n : Nat) (l : List Value) : List Value := Nat.rec (motive := fun _ => List Value → List Value) (fun l => l) (fun _ ih l => List.rec (motive := fun _ => List Value) [] (fun _ t _ => ih t) l) n l
theorem ldrop_eq : ∀ (n : Nat) (l : List Value), ldrop n l = l.drop n
  | 0, l => rfl
  | n + 1, [] => by rfl
  | n + 1, v :: l => by show ldrop n l = _; rw [ldrop_eq n l]; rfl
/-- The first n, all known. -/
def ltake (n : Nat) (l : List Value) : Option (List Value) := Nat.rec (motive := fun _ => List Value → Option (List Value)) (fun _ => some []) (fun _ ih l => List.rec (motive := fun _ => (List Value → Option (List Value)) → Option (List Value)) (fun _ => none)
  (fun v t _ ih => Bool.rec (motive := fun _ => Option (List Value) → Value → Option (List Value)) (fun r v => Option.rec (motive := fun _ => Value → Option (List Value)) (fun _ => none) (fun r v => some (v :: r)) r v) (fun _ _ => none) (isJ v) (ih t) v) l ih) n l
theorem ltake_eq : ∀ (n : Nat) (l : List Value), ltake n l = if n ≤ l.length ∧ noJ (l.take n) = true then some (l.take n) else none
  | 0, l => by show some [] = _; simp [noJ]
  | n + 1, [] => by show none = _; simp
  | n + 1, v :: l => by
    show Bool.rec (motive := fun _ => Option (List Value) → Value → Option (List Value)) (fun r v => Option.rec (motive := fun _ => Value → Option (List Value)) (fun _ => none) (fun r v => some (v :: r)) r v) (fun _ _ => none) (isJ v) (ltake n l) v = _
    rw [ltake_eq n l]
    cases hj : isJ v with
    | true => simp [noJ, hj]
    | false =>
      simp only [List.length_cons, List.take_succ_cons, noJ, hj, Nat.add_le_add_iff_right]
      by_cases h : n ≤ l.length ∧ noJ (l.take n) = true
      · rw [if_pos h, if_pos h]
      · rw [if_neg h, if_neg h]
def ld (s : St) (b o n : Nat) : Option (List Value) := Option.rec (motive := fun _ => Nat → Nat → Option (List Value)) (fun _ _ => none) (fun c o n => Bool.rec (motive := fun _ => Option (List Value)) none (ltake n (ldrop o c)) (Nat.ble o c.length)) (ocells (sget s b)) o n
theorem ld_eq (s : St) (b o n : Nat) : ld s b o n = s.ld b o n := by
  unfold ld St.ld
  rw [sget_eq]
  cases s.get b with
  | none => rfl
  | some x =>
    cases x with
    | map es => rfl
    | loop => rfl
    | cells c =>
      show Bool.rec (motive := fun _ => Option (List Value)) none (ltake n (ldrop o c)) (Nat.ble o c.length) = if o + n ≤ c.length ∧ noJ ((c.drop o).take n) = true then some ((c.drop o).take n) else none
      rw [ltake_eq, ldrop_eq]
      cases h : Nat.ble o c.length with
      | false =>
        have : ¬ o ≤ c.length := fun h2 => by rw [Nat.ble_eq_true_of_le h2] at h; cases h
        show none = _
        rw [if_neg (fun h2 => this (by omega))]
      | true =>
        have h2 := Nat.le_of_ble_eq_true h
        show (if n ≤ (c.drop o).length ∧ noJ ((c.drop o).take n) = true then some ((c.drop o).take n) else none) = _
        have : n ≤ (c.drop o).length ↔ o + n ≤ c.length := by simp; omega
        simp only [this]
def oneV (c : List Value) : Option Value := List.rec (motive := fun _ => Option Value) none (fun v t _ => List.rec (motive := fun _ => Value → Option Value) (fun v => some v) (fun _ _ _ _ => none) t v) c
def ofc (n : Option Nat) (c : List Value) : Option Value := Option.rec (motive := fun _ => List Value → Option Value) (fun c => oneV c) (fun _ c => some (.agg ⟨c⟩)) n c
theorem ofc_eq (n : Option Nat) (c : List Value) : ofc n c = ofCells n c := by
  cases n with
  | some _ => simp [ofc, ofCells]
  | none =>
    match c with
    | [] => rfl
    | [v] => rfl
    | _ :: _ :: _ => rfl
def load (s : St) (n : Option Nat) (x : Option Value) : OpR :=
  Option.rec (motive := fun _ => St → Option Nat → OpR) (fun _ _ => none)
    (fun p s n => Option.rec (motive := fun _ => St → Option Nat → OpR) (fun _ _ => none) (fun c s n => Option.rec (motive := fun _ => St → OpR) (fun _ => none) (fun v s => some (some v, s)) (ofc n c) s) (ld s p.block p.off (Option.rec (motive := fun _ => Nat) 1 (fun k => k) n)) s n)
    (Option.rec (motive := fun _ => Option Addr) none (fun v => vptr v) x) s n
theorem load_eq (s : St) (n : Option Nat) (x : Option Value) : load s n x = rLoad s n x := by
  cases x with
  | none => rfl
  | some v =>
    cases v with
    | pointer a =>
      cases a with
      | none => rfl
      | some p =>
        show Option.rec (motive := fun _ => St → Option Nat → OpR) (fun _ _ => none) (fun c s n => Option.rec (motive := fun _ => St → OpR) (fun _ => none) (fun v s => some (some v, s)) (ofc n c) s) (ld s p.block p.off (Option.rec (motive := fun _ => Nat) 1 (fun k => k) n)) s n = _
        rw [ld_eq]
        have e : (Option.rec (motive := fun _ => Nat) 1 (fun k => k) n) = n.getD 1 := by cases n <;> rfl
        rw [e]
        simp only [rLoad]
        cases s.ld p.block p.off (n.getD 1) with
        | none => rfl
        | some c =>
          show Option.rec (motive := fun _ => St → OpR) (fun _ => none) (fun v s => some (some v, s)) (ofc n c) s = _
          rw [ofc_eq]
          simp only [some1]
          cases ofCells n c <;> rfl
    | _ => rfl
def faddr (s : St) (off : Nat) (x : Option Value) : OpR :=
  Option.rec (motive := fun _ => St → Nat → OpR) (fun _ _ => none) (fun p s off => some (some (.pointer (some ⟨p.block, Nat.add p.off off, none⟩)), s)) (Option.rec (motive := fun _ => Option Addr) none (fun v => vptr v) x) s off
theorem faddr_eq (s : St) (off : Nat) (x : Option Value) : faddr s off x = rFieldAddr s off x := by
  cases x with
  | none => rfl
  | some v =>
    cases v with
    | pointer a => cases a <;> rfl
    | _ => rfl
def inat (v : Value) : Option Nat := Option.rec (motive := fun _ => Option Nat) none (fun p => Int.rec (motive := fun _ => Option Nat) (fun n => some n) (fun _ => none) p.2) (vint v)
def idx (s : St) (st : Nat) (x y : Option Value) : OpR :=
  Option.rec (motive := fun _ => St → Nat → OpR) (fun _ _ => none)
    (fun q s st => Option.rec (motive := fun _ => Nat → St → Nat → OpR) (fun _ _ _ => none)
      (fun i len s st => Option.rec (motive := fun _ => Nat → Nat → St → Nat → OpR) (fun _ _ _ _ => none) (fun p i len s st => Bool.rec (motive := fun _ => OpR) none (some (some (.pointer (some ⟨p.block, Nat.add p.off (Nat.mul i st), none⟩)), s)) (Nat.ble (Nat.succ i) len)) q.1 i len s st)
      (Option.rec (motive := fun _ => Option Nat) none (fun v => inat v) y) q.2.1 s st)
    (Option.rec (motive := fun _ => Option (Option Addr × Nat × Nat)) none (fun v => vsl v) x) s st
theorem idx_eq (s : St) (st : Nat) (x y : Option Value) : idx s st x y = rIndexSl s st x y := by
  cases x with
  | none => rfl
  | some v =>
    cases v with
    | slice a len cap =>
      cases y with
      | none => cases a <;> rfl
      | some u =>
        cases u with
        | int k n =>
          cases a with
          | none => cases n <;> rfl
          | some p =>
            cases n with
            | negSucc m => rfl
            | ofNat i =>
              show Bool.rec (motive := fun _ => OpR) none (some (some (.pointer (some ⟨p.block, Nat.add p.off (Nat.mul i st), none⟩)), s)) (Nat.ble (Nat.succ i) len) = _
              simp only [rIndexSl]
              cases h : Nat.ble (Nat.succ i) len with
              | false =>
                have : ¬ (i < len) := fun h2 => by rw [Nat.ble_eq_true_of_le h2] at h; cases h
                rw [if_neg (by simp only [Int.ofNat_eq_natCast]; omega)]
              | true =>
                have := Nat.le_of_ble_eq_true h
                rw [if_pos (by simp only [Int.ofNat_eq_natCast]; omega)]
                rfl
        | _ => cases a <;> rfl
    | _ => cases y <;> rfl
def slen (s : St) (b : Bool) (x : Option Value) : OpR :=
  Bool.rec (motive := fun _ => St → Option Value → OpR) (fun s x => Option.rec (motive := fun _ => St → OpR) (fun _ => none) (fun q s => some (some (.int .i64 (.ofNat q.2.1)), s)) (Option.rec (motive := fun _ => Option (Option Addr × Nat × Nat)) none (fun v => vsl v) x) s) (fun s x => rLen s true x) b s x
theorem slen_eq (s : St) (b : Bool) (x : Option Value) : slen s b x = rLen s b x := by
  cases b with
  | true => rfl
  | false =>
    cases x with
    | none => rfl
    | some v => cases v <;> rfl

/-! ### Writing -/
def bitsF (f n : Nat) : List Bool := Nat.rec (motive := fun _ => Nat → List Bool) (fun _ => []) (fun _ ih n => Bool.rec (motive := fun _ => List Bool) (Nat.beq (Nat.mod n 2) 1 :: ih (Nat.div n 2)) [] (Nat.beq n 0)) f n
theorem bitsF_eq : ∀ (f n : Nat), bitsF f n = Trie.bits f n
  | 0, n => rfl
  | f + 1, 0 => rfl
  | f + 1, n + 1 => by
    show Nat.beq (Nat.mod (n + 1) 2) 1 :: bitsF f (Nat.div (n + 1) 2) = _
    rw [bitsF_eq f]; rfl
def putF (x : Option LObj) (p : List Bool) (t : Trie LObj) : Trie LObj := List.rec (motive := fun _ => Option LObj → Trie LObj → Trie LObj)
  (fun x t => Trie.rec (motive := fun _ => Option LObj → Trie LObj) (fun x => .node x .leaf .leaf) (fun _ l r _ _ x => .node x l r) t x)
  (fun b _ ih x t => Bool.rec (motive := fun _ => (Option LObj → Trie LObj → Trie LObj) → Option LObj → Trie LObj → Trie LObj)
    (fun ih x t => Trie.rec (motive := fun _ => (Option LObj → Trie LObj → Trie LObj) → Option LObj → Trie LObj) (fun ih x => .node none (ih x .leaf) .leaf) (fun v l r _ _ ih x => .node v (ih x l) r) t ih x)
    (fun ih x t => Trie.rec (motive := fun _ => (Option LObj → Trie LObj → Trie LObj) → Option LObj → Trie LObj) (fun ih x => .node none .leaf (ih x .leaf)) (fun v l r _ _ ih x => .node v l (ih x r)) t ih x) b ih x t) p x t
theorem putF_eq (x : Option LObj) : ∀ (p : List Bool) (t : Trie LObj), putF x p t = Trie.putB x p t
  | [], .leaf => rfl
  | [], .node _ _ _ => rfl
  | false :: p, .leaf => by show Trie.node none (putF x p .leaf) .leaf = _; rw [putF_eq x p]; rfl
  | true :: p, .leaf => by show Trie.node none .leaf (putF x p .leaf) = _; rw [putF_eq x p]; rfl
  | false :: p, .node v l r => by show Trie.node v (putF x p l) r = _; rw [putF_eq x p]; rfl
  | true :: p, .node v l r => by show Trie.node v l (putF x p r) = _; rw [putF_eq x p]; rfl
def tset (t : Trie LObj) (n : Nat) (x : Option LObj) : Trie LObj := putF x (bitsF n n) t
theorem tset_eq (t : Trie LObj) (n : Nat) (x : Option LObj) : tset t n x = t.set n x := by unfold tset Trie.set; rw [putF_eq, bitsF_eq]
def snew (s : St) (o : LObj) : St := St.rec (motive := fun _ => LObj → St) (fun hm hi k o => ⟨tset hm k (some o), hi, Nat.succ k⟩) s o
theorem snew_eq (s : St) (o : LObj) : snew s o = s.new o := by
  obtain ⟨hm, hi, k⟩ := s
  show (⟨tset hm k (some o), hi, Nat.succ k⟩ : St) = _
  rw [tset_eq]; rfl
def vscalar (v : Value) : Bool := Value.rec (motive_1 := fun _ => Bool) (motive_2 := fun _ => PUnit) (motive_3 := fun _ => PUnit) (fun b => true) (fun _ _ => true) (fun _ _ => true) (fun _ _ _ => true) (fun _ => true) (fun _ => true) (fun _ _ _ => true) (fun _ => true) (fun _ => true)
  (fun _ _ _ _ _ => true) true (fun _ _ _ => true) true (fun _ _ => false) (fun _ _ => false) (fun _ _ => ⟨⟩) ⟨⟩ (fun _ _ _ _ => ⟨⟩) v
theorem vscalar_eq (v : Value) : vscalar v = scalar v := by cases v <;> rfl
def lput (vs c : List Value) : Option (List Value) := List.rec (motive := fun _ => List Value → Option (List Value)) (fun c => some c)
  (fun v _ ih c => List.rec (motive := fun _ => Value → (List Value → Option (List Value)) → Option (List Value)) (fun _ _ => none) (fun _ t _ v ih => Bool.rec (motive := fun _ => Value → Option (List Value) → Option (List Value)) (fun _ _ => none) (fun v r => Option.rec (motive := fun _ => Value → Option (List Value)) (fun _ => none) (fun r v => some (v :: r)) r v) (vscalar v) v (ih t)) c v ih) vs c
theorem lput_eq : ∀ (vs c : List Value), lput vs c = if vs.length ≤ c.length ∧ vs.all scalar = true then some (vs ++ c.drop vs.length) else none
  | [], c => by show some c = _; simp
  | v :: vs, [] => by show none = _; simp
  | v :: vs, u :: c => by
    show Bool.rec (motive := fun _ => Value → Option (List Value) → Option (List Value)) (fun _ _ => none) (fun v r => Option.rec (motive := fun _ => Value → Option (List Value)) (fun _ => none) (fun r v => some (v :: r)) r v) (vscalar v) v (lput vs c) = _
    rw [lput_eq vs c, vscalar_eq]
    cases h : scalar v with
    | false => simp [h]
    | true =>
      simp only [List.length_cons, List.all_cons, h, Bool.true_and, List.drop_succ_cons, Nat.add_le_add_iff_right]
      by_cases h2 : vs.length ≤ c.length ∧ vs.all scalar = true
      · rw [if_pos h2, if_pos h2]; rfl
      · rw [if_neg h2, if_neg h2]
def lspl (o : Nat) (vs c : List Value) : Option (List Value) := Nat.rec (motive := fun _ => List Value → List Value → Option (List Value)) (fun vs c => lput vs c)
  (fun _ ih vs c => List.rec (motive := fun _ => List Value → (List Value → List Value → Option (List Value)) → Option (List Value)) (fun _ _ => none) (fun v t _ vs ih => Option.rec (motive := fun _ => Value → Option (List Value)) (fun _ => none) (fun r v => some (v :: r)) (ih vs t) v) c vs ih) o vs c
theorem lspl_eq : ∀ (o : Nat) (vs c : List Value), lspl o vs c = if o + vs.length ≤ c.length ∧ vs.all scalar = true then some (c.take o ++ vs ++ c.drop (o + vs.length)) else if o ≤ c.length then none else none
  | 0, vs, c => by show lput vs c = _; rw [lput_eq]; simp
  | o + 1, vs, [] => by show none = _; rw [if_neg (by simp)]; simp
  | o + 1, vs, v :: c => by
    show Option.rec (motive := fun _ => Value → Option (List Value)) (fun _ => none) (fun r v => some (v :: r)) (lspl o vs c) v = _
    rw [lspl_eq o vs c]
    have e : o + 1 + vs.length = (o + vs.length) + 1 := by omega
    simp only [List.length_cons, e, Nat.add_le_add_iff_right, List.take_succ_cons, List.drop_succ_cons]
    by_cases h2 : o + vs.length ≤ c.length ∧ vs.all scalar = true
    · rw [if_pos h2, if_pos h2]; rfl
    · rw [if_neg h2, if_neg h2]; simp
def sst (fl : Nat) (s : St) (b o : Nat) (vs : List Value) : Option St := St.rec (motive := fun _ => Nat → Nat → Nat → List Value → Option St) (fun hm hi k fl b o vs =>
  Option.rec (motive := fun _ => Trie LObj → Trie LObj → Nat → Nat → Nat → Nat → List Value → Option St) (fun _ _ _ _ _ _ _ => none)
    (fun c hm hi k fl b o vs => Bool.rec (motive := fun _ => Option (List Value) → Trie LObj → Trie LObj → Nat → Nat → Option St) (fun _ _ _ _ _ => none)
      (fun r hm hi k b => Option.rec (motive := fun _ => Trie LObj → Trie LObj → Nat → Nat → Option St) (fun _ _ _ _ => none) (fun c hm hi k b => some ⟨tset hm b (some (.cells c)), hi, k⟩) r hm hi k b) (Nat.ble fl b) (lspl o vs c) hm hi k b)
    (ocells (tfind hm b)) hm hi k fl b o vs) s fl b o vs
theorem sst_eq (fl : Nat) (s : St) (b o : Nat) (vs : List Value) : sst fl s b o vs = s.st fl b o vs := by
  obtain ⟨hm, hi, k⟩ := s
  show Option.rec (motive := fun _ => Trie LObj → Trie LObj → Nat → Nat → Nat → Nat → List Value → Option St) (fun _ _ _ _ _ _ _ => none)
    (fun c hm hi k fl b o vs => Bool.rec (motive := fun _ => Option (List Value) → Trie LObj → Trie LObj → Nat → Nat → Option St) (fun _ _ _ _ _ => none)
      (fun r hm hi k b => Option.rec (motive := fun _ => Trie LObj → Trie LObj → Nat → Nat → Option St) (fun _ _ _ _ => none) (fun c hm hi k b => some ⟨tset hm b (some (.cells c)), hi, k⟩) r hm hi k b) (Nat.ble fl b) (lspl o vs c) hm hi k b)
    (ocells (tfind hm b)) hm hi k fl b o vs = _
  rw [tfind_eq]
  unfold St.st
  simp only
  cases hm.get b with
  | none => rfl
  | some x =>
    cases x with
    | map es => rfl
    | loop => rfl
    | cells c =>
      show Bool.rec (motive := fun _ => Option (List Value) → Trie LObj → Trie LObj → Nat → Nat → Option St) (fun _ _ _ _ _ => none)
        (fun r hm hi k b => Option.rec (motive := fun _ => Trie LObj → Trie LObj → Nat → Nat → Option St) (fun _ _ _ _ => none) (fun c hm hi k b => some ⟨tset hm b (some (.cells c)), hi, k⟩) r hm hi k b) (Nat.ble fl b) (lspl o vs c) hm hi k b = _
      rw [lspl_eq]
      cases h : Nat.ble fl b with
      | false =>
        have : ¬ fl ≤ b := fun h2 => by rw [Nat.ble_eq_true_of_le h2] at h; cases h
        simp [this]
      | true =>
        have hfl := Nat.le_of_ble_eq_true h
        simp only [hfl, true_and]
        by_cases h2 : o + vs.length ≤ c.length ∧ vs.all scalar = true
        · rw [if_pos h2, if_pos h2]
          show some _ = some _
          rw [tset_eq]
        · rw [if_neg h2, if_neg h2]
          simp
def vcells (v : Value) : List Value := Option.rec (motive := fun _ => Value → List Value) (fun v => cellsL v) (fun c _ => c) (vagg v) v
theorem vcells_eq (v : Value) : vcells v = cellsL v := by cases v <;> rfl
def store (fl : Nat) (s : St) (n : Nat) (fz : Bool) (x y : Option Value) : OpR :=
  Option.rec (motive := fun _ => Nat → St → Nat → Bool → Option Value → OpR) (fun _ _ _ _ _ => none)
    (fun p fl s n fz y => Option.rec (motive := fun _ => Nat → St → Nat → Bool → Addr → OpR) (fun _ _ _ _ _ => none)
      (fun v fl s n fz p => Bool.rec (motive := fun _ => OpR) none (Option.rec (motive := fun _ => OpR) none (fun s' => some (none, Bool.rec (motive := fun _ => St) s' (s'.fz p.block) fz)) (sst fl s p.block p.off (vcells v))) (Nat.beq (vcells v).length n)) y fl s n fz p)
    (Option.rec (motive := fun _ => Option Addr) none (fun v => vptr v) x) fl s n fz y
theorem store_eq (fl : Nat) (s : St) (n : Nat) (fz : Bool) (x y : Option Value) : store fl s n fz x y = rStore fl s n fz x y := by
  cases x with
  | none => rfl
  | some v =>
    cases v with
    | pointer a =>
      cases a with
      | none => cases y <;> rfl
      | some p =>
        cases y with
        | none => rfl
        | some v =>
          show Bool.rec (motive := fun _ => OpR) none (Option.rec (motive := fun _ => OpR) none (fun s' => some (none, Bool.rec (motive := fun _ => St) s' (s'.fz p.block) fz)) (sst fl s p.block p.off (vcells v))) (Nat.beq (vcells v).length n) = _
          rw [sst_eq, vcells_eq, nbeq]
          simp only [rStore]
          by_cases h : (cellsL v).length = n
          · rw [if_pos h, decide_eq_true h]
            cases s.st fl p.block p.off (cellsL v) with
            | none => rfl
            | some s' => cases fz <;> rfl
          · rw [if_neg h, decide_eq_false h]
    | _ => cases y <;> rfl
def box (s : St) (st : Nat) (imm : Bool) (x : Option Value) : OpR := Bool.rec (motive := fun _ => St → Nat → Option Value → OpR)
  (fun s st x => Option.rec (motive := fun _ => St → Nat → OpR) (fun _ _ => none) (fun v s st => Bool.rec (motive := fun _ => OpR) none (some (some (ptrTo s.k), snew s (.cells (vcells v)))) (Nat.beq (vcells v).length st)) x s st) (fun s st x => rBox s st true x) imm s st x
theorem box_eq (s : St) (st : Nat) (imm : Bool) (x : Option Value) : box s st imm x = rBox s st imm x := by
  cases imm with
  | true => rfl
  | false =>
    cases x with
    | none => rfl
    | some v =>
      show Bool.rec (motive := fun _ => OpR) none (some (some (ptrTo s.k), snew s (.cells (vcells v)))) (Nat.beq (vcells v).length st) = _
      rw [snew_eq, vcells_eq, nbeq]
      simp only [rBox]
      by_cases h : (cellsL v).length = st
      · rw [if_pos h, decide_eq_true h]; rfl
      · rw [if_neg h, decide_eq_false h]
def field (s : St) (agg : Option Nat) (off : Nat) (x : Option Value) : OpR :=
  Option.rec (motive := fun _ => St → Option Nat → Nat → OpR) (fun _ _ _ => none)
    (fun c s agg off => Option.rec (motive := fun _ => List Value → St → Nat → OpR) (fun c s off => List.rec (motive := fun _ => St → OpR) (fun _ => none) (fun v _ _ s => some (some v, s)) (ldrop off c) s) (fun n c s off => some (some (.agg ⟨(ldrop off c).take n⟩), s)) agg c s off)
    (Option.rec (motive := fun _ => Option (List Value)) none (fun v => vagg v) x) s agg off
theorem field_eq (s : St) (agg : Option Nat) (off : Nat) (x : Option Value) : field s agg off x = rField s agg off x := by
  cases x with
  | none => rfl
  | some v =>
    cases v with
    | agg c =>
      cases agg with
      | some n =>
        show some (some (Value.agg ⟨(ldrop off c.toList).take n⟩), s) = _
        rw [ldrop_eq]; simp [rField, ofCells, some1]
      | none =>
        show List.rec (motive := fun _ => St → OpR) (fun _ => none) (fun v _ _ s => some (some v, s)) (ldrop off c.toList) s = _
        rw [ldrop_eq]
        simp only [rField, Option.getD]
        cases c.toList.drop off with
        | nil => rfl
        | cons v t => rfl
    | _ => rfl
/-! ### One operation -/
abbrev Step := Nat → St → Env → OpR
def opt2 (x y : Option Value) (k : Value → Value → OpR) : OpR := Option.rec (motive := fun _ => Option Value → (Value → Value → OpR) → OpR) (fun _ _ => none) (fun a y k => Option.rec (motive := fun _ => (Value → OpR) → OpR) (fun _ => none) (fun b k => k b) y (k a)) x y k
def ret1 (s : St) (x : Option Value) : OpR := Option.rec (motive := fun _ => St → OpR) (fun _ => none) (fun v s => some (some v, s)) x s
theorem ret1_eq (s : St) (x : Option Value) : ret1 s x = some1 s x := by cases x <;> rfl
def step (E : Evs) (op : LOp) (fl : Nat) (s : St) (e : Env) : OpR :=
  LOp.rec (motive := fun _ => Evs → Step)
    (fun x E fl s e => ret1 s (ev x e))
    (fun x E fl s e => rNil s (ev x e))
    (fun c a b E fl s e => rPick e s a b (ev c e))
    (fun st zero E fl s e => some (some (ptrTo s.k), snew s (.cells zero)))
    (fun st x imm E fl s e => box s st imm (ev x e))
    (fun zero parts E fl s e => runOp fl s e (.build zero parts))
    (fun st len zero parts imm E fl s e => runOp fl s e (.buildSlice st len zero parts imm))
    (fun n a E fl s e => load s n (ev a e))
    (fun n a x fz E fl s e => store fl s n fz (ev a e) (ev x e))
    (fun op k x y E fl s e => opt2 (ev x e) (ev y e) (fun a b => ret1 s (bin s op k a b)))
    (fun op x E fl s e => rUn s op (ev x e))
    (fun k x E fl s e => rConv s k (ev x e))
    (fun fn first cap E fl s e => rFunc s fn (evs first e) (evs cap e))
    (fun E fl s e => runOp fl s e .makeMap)
    (fun st bytes zero len cap E fl s e => rMakeSlice s st bytes zero (ev len e) (ev cap e))
    (fun x lo hi E fl s e => rSliceStr s (ev x e) (evo e lo) (evo e hi))
    (fun st x lo hi mx E fl s e => rSliceSl s st (ev x e) (evo e lo) (evo e hi) (evo e mx))
    (fun st n x lo hi mx E fl s e => rSliceArr s st n (ev x e) (evo e lo) (evo e hi) (evo e mx))
    (fun off x E fl s e => faddr s off (ev x e))
    (fun agg off x E fl s e => field s agg off (ev x e))
    (fun st x i E fl s e => idx s st (ev x e) (ev i e))
    (fun st n x i E fl s e => rIndexArrAddr s st n (ev x e) (ev i e))
    (fun x i E fl s e => rIndexStr s (ev x e) (ev i e))
    (fun agg st n x i E fl s e => rIndexArr s agg st n (ev x e) (ev i e))
    (fun kd zero m k ok E fl s e => rLookup s kd zero ok (ev m e) (ev k e))
    (fun kd m k v E fl s e => rMapUpdate fl s kd (ev m e) (ev k e) (ev v e))
    (fun x i E fl s e => rExtract s i (ev x e))
    (fun f args E fl s e => eCall E fl s (ev f e) (evs args e))
    (fun st bytes x y E fl s e => rAppend fl s st bytes (ev x e) (ev y e))
    (fun st bytes zero x y E fl s e => rAppendZ fl s st bytes zero (ev x e) (ev y e))
    (fun x E fl s e => rCap s (ev x e))
    (fun t x E fl s e => rIface s t (ev x e))
    (fun E fl s e => none)
    (fun k x E fl s e => slen s k (ev x e))
    (fun st d x E fl s e => rCopy fl s st (ev d e) (ev x e))
    (fun st zero x E fl s e => rClear fl s zero (ev x e))
    (fun x y E fl s e => rMin s (ev x e) (ev y e))
    (fun x y E fl s e => rMax s (ev x e) (ev y e))
    op E fl s e
theorem step_eq (E : Evs) (op : LOp) (fl : Nat) (s : St) (e : Env) : step E op fl s e = eOp E fl s e op := by
  cases op <;> simp only [step, eOp, runOp, ev_eq, evs_eq, ret1_eq, load_eq, faddr_eq, idx_eq, slen_eq, bin_eq, box_eq, store_eq, field_eq, snew_eq]
  · rename_i op k x y
    cases Ev.ev e x with
    | none => rfl
    | some a => cases Ev.ev e y <;> rfl
def fin (dst : Option Nat) (loc : Bool) (e : Env) (r : OpR) : Option (Env × St) :=
  Option.rec (motive := fun _ => Option Nat → Bool → Env → Option (Env × St)) (fun _ _ _ => none) (fun p dst loc e => Prod.rec (motive := fun _ => Option Nat → Bool → Env → Option (Env × St)) (fun v s dst loc e => some (putD dst loc v e, s)) p dst loc e) r dst loc e
theorem fin_eq (dst : Option Nat) (loc : Bool) (e : Env) (r : OpR) : fin dst loc e r = match r with | some (v, s') => some (Ev.putD e loc dst v, s') | none => none := by
  cases r with
  | none => rfl
  | some p =>
    obtain ⟨v, s⟩ := p
    show some (putD dst loc v e, s) = _
    rw [putD_eq]
def oper (E : Evs) (fl : Nat) (o : LOper) (e : Env) (s : St) : Option (Env × St) :=
  LOper.rec (motive := fun _ => Evs → Nat → Env → St → Option (Env × St)) (fun dst loc op guard E fl e s =>
    Option.rec (motive := fun _ => Option Nat → Bool → LOp → Evs → Nat → Env → St → Option (Env × St))
      (fun dst loc op E fl e s => fin dst loc e (step E op fl s e))
      (fun g dst loc op E fl e s => Option.rec (motive := fun _ => (Nat × Bool) → Option Nat → Bool → LOp → Evs → Nat → Env → St → Option (Env × St)) (fun _ _ _ _ _ _ _ _ => none)
        (fun v g dst loc op E fl e s => Option.rec (motive := fun _ => (Nat × Bool) → Option Nat → Bool → LOp → Evs → Nat → Env → St → Option (Env × St)) (fun _ _ _ _ _ _ _ _ => none)
          (fun b g dst loc op E fl e s => Bool.rec (motive := fun _ => Option Nat → Bool → LOp → Evs → Nat → Env → St → Option (Env × St)) (fun dst loc op E fl e s => some (Ev.putD e loc dst none, s)) (fun dst loc op E fl e s => fin dst loc e (step E op fl s e))
            (Bool.rec (motive := fun _ => Bool → Bool) (fun b => Bool.rec (motive := fun _ => Bool) true false b) (fun b => b) g.2 b) dst loc op E fl e s) (vbool v) g dst loc op E fl e s)
        (look e g.1) g dst loc op E fl e s) guard dst loc op E fl e s) o E fl e s
theorem oper_eq (E : Evs) (fl : Nat) (o : LOper) (e : Env) (s : St) : oper E fl o e s = eOper E fl o e s := by
  obtain ⟨dst, loc, op, guard⟩ := o
  cases guard with
  | some g =>
    obtain ⟨t, w⟩ := g
    show Option.rec (motive := fun _ => (Nat × Bool) → Option Nat → Bool → LOp → Evs → Nat → Env → St → Option (Env × St)) (fun _ _ _ _ _ _ _ _ => none)
        (fun v g dst loc op E fl e s => Option.rec (motive := fun _ => (Nat × Bool) → Option Nat → Bool → LOp → Evs → Nat → Env → St → Option (Env × St)) (fun _ _ _ _ _ _ _ _ => none)
          (fun b g dst loc op E fl e s => Bool.rec (motive := fun _ => Option Nat → Bool → LOp → Evs → Nat → Env → St → Option (Env × St)) (fun dst loc op E fl e s => some (Ev.putD e loc dst none, s)) (fun dst loc op E fl e s => fin dst loc e (step E op fl s e))
            (Bool.rec (motive := fun _ => Bool → Bool) (fun b => Bool.rec (motive := fun _ => Bool) true false b) (fun b => b) g.2 b) dst loc op E fl e s) (vbool v) g dst loc op E fl e s)
        (look e t) (t, w) dst loc op E fl e s = _
    rw [look_eq]
    simp only [eOper, want]
    cases e.look t with
    | none => rfl
    | some v =>
      cases v with
      | bool b =>
        cases b <;> cases w <;> first | rfl | (show fin dst loc e (step E op fl s e) = _; rw [fin_eq, step_eq]; rfl)
      | _ => rfl
  | none =>
    show fin dst loc e (step E op fl s e) = _
    rw [fin_eq, step_eq]
    rfl
def ops (E : Evs) (fl : Nat) (l : List LOper) (e : Env) (s : St) : Option (Env × St) :=
  List.rec (motive := fun _ => Evs → Nat → Env → St → Option (Env × St)) (fun _ _ e s => some (e, s))
    (fun o _ ih E fl e s => Option.rec (motive := fun _ => (Evs → Nat → Env → St → Option (Env × St)) → Evs → Nat → Option (Env × St)) (fun _ _ _ => none) (fun p ih E fl => Prod.rec (motive := fun _ => (Evs → Nat → Env → St → Option (Env × St)) → Evs → Nat → Option (Env × St)) (fun e s ih E fl => ih E fl e s) p ih E fl) (oper E fl o e s) ih E fl) l E fl e s
theorem ops_eq (E : Evs) (fl : Nat) : ∀ (l : List LOper) (e : Env) (s : St), ops E fl l e s = eOps E fl l e s
  | [], e, s => rfl
  | o :: r, e, s => by
    show Option.rec (motive := fun _ => (Evs → Nat → Env → St → Option (Env × St)) → Evs → Nat → Option (Env × St)) (fun _ _ _ => none) (fun p ih E fl => Prod.rec (motive := fun _ => (Evs → Nat → Env → St → Option (Env × St)) → Evs → Nat → Option (Env × St)) (fun e s ih E fl => ih E fl e s) p ih E fl) (oper E fl o e s) (fun E fl e s => ops E fl r e s) E fl = _
    rw [oper_eq]
    simp only [eOps]
    cases eOper E fl o e s with
    | none => rfl
    | some p => exact ops_eq E fl r p.1 p.2
def reg (C : Cfg) (E : Evs) (fl : Nat) (l : List LOper) (T : Tmps) (s : St) (ps : List (Nat × Nat)) : Option (Xit × Tmps × St) :=
  List.rec (motive := fun _ => Cfg → Evs → Nat → List LOper → Tmps → St → Option (Xit × Tmps × St)) (fun _ E fl l T s => Option.rec (motive := fun _ => Option (Xit × Tmps × St)) none (fun p => Prod.rec (motive := fun _ => Option (Xit × Tmps × St)) (fun e s => Env.rec (motive := fun _ => St → Option (Xit × Tmps × St)) (fun _ T s => some (.normal, T, s)) e s) p) (ops E fl l ⟨[], T⟩ s))
    (fun p r _ C E fl l T s => eReg C E fl l T s (p :: r)) ps C E fl l T s
theorem reg_eq (C : Cfg) (E : Evs) (fl : Nat) (l : List LOper) (T : Tmps) (s : St) (ps : List (Nat × Nat)) : reg C E fl l T s ps = eReg C E fl l T s ps := by
  cases ps with
  | cons p r => rfl
  | nil =>
    show Option.rec (motive := fun _ => Option (Xit × Tmps × St)) none (fun p => Prod.rec (motive := fun _ => Option (Xit × Tmps × St)) (fun e s => Env.rec (motive := fun _ => St → Option (Xit × Tmps × St)) (fun _ T s => some (.normal, T, s)) e s) p) (ops E fl l ⟨[], T⟩ s) = eRegion (eOps E fl l ⟨[], T⟩ s)
    rw [ops_eq]
    cases eOps E fl l ⟨[], T⟩ s <;> rfl
abbrev R := Option (Xit × Tmps × St)
def thn (E : Evs) (fl fn : Nat) (b : LCode) (r : R) : R := Option.rec (motive := fun _ => Evs → Nat → Nat → LCode → R) (fun _ _ _ _ => none)
  (fun p E fl fn b => Prod.rec (motive := fun _ => Evs → Nat → Nat → LCode → R) (fun x q E fl fn b => Prod.rec (motive := fun _ => Xit → Evs → Nat → Nat → LCode → R) (fun T s x E fl fn b => Xit.rec (motive := fun _ => Tmps → St → Evs → Nat → Nat → LCode → R) (fun T s E fl fn b => Evs.rec (motive := fun _ => Nat → Nat → LCode → Tmps → St → R) (fun c _ fl fn b T s => c fl fn b T s) E fl fn b T s) (fun i T s _ _ _ _ => some (.exit i, T, s)) (fun T s _ _ _ _ => some (.ret, T, s)) x T s E fl fn b) q x E fl fn b) p E fl fn b) r E fl fn b
theorem thn_eq (E : Evs) (fl fn : Nat) (b : LCode) (r : R) : thn E fl fn b r = eThen E fl fn b r := by
  cases r with
  | none => rfl
  | some p =>
    obtain ⟨x, T, s⟩ := p
    cases x <;> rfl
def cnd (E : Evs) (fl fn : Nat) (a b : LCode) (T : Tmps) (s : St) (x : Option Value) : R :=
  Option.rec (motive := fun _ => Evs → Nat → Nat → LCode → LCode → Tmps → St → R) (fun _ _ _ _ _ _ _ => none)
    (fun v E fl fn a b T s => Option.rec (motive := fun _ => Evs → Nat → Nat → LCode → LCode → Tmps → St → R) (fun _ _ _ _ _ _ _ => none) (fun t E fl fn a b T s => E.c fl fn (Bool.rec (motive := fun _ => LCode) b a t) T s) (vbool v) E fl fn a b T s) x E fl fn a b T s
theorem cnd_eq (E : Evs) (fl fn : Nat) (a b : LCode) (T : Tmps) (s : St) (x : Option Value) : cnd E fl fn a b T s x = eCond E fl fn a b T s x := by
  cases x with
  | none => rfl
  | some v =>
    cases v with
    | bool t => cases t <;> rfl
    | _ => rfl
def tdrop (d : List Nat) (T : Tmps) : Tmps := List.rec (motive := fun _ => Tmps → Tmps) (fun T => T) (fun _ _ _ T => Tdrop d T) d T
theorem tdrop_eq (d : List Nat) (T : Tmps) : tdrop d T = Tdrop d T := by
  cases d with
  | cons _ _ => rfl
  | nil =>
    show T = Tdrop [] T
    induction T with
    | nil => rfl
    | cons p r ih => obtain ⟨i, v⟩ := p; simp only [Tdrop, memN]; rw [← ih]
def code (C : Cfg) (E : Evs) (fl fn : Nat) (c : LCode) (T : Tmps) (s : St) : R :=
  LCode.rec (motive := fun _ => Cfg → Evs → Nat → Nat → Tmps → St → R)
    (fun _ _ _ _ T s => some (.normal, T, s))
    (fun l ps C E fl fn T s => reg C E fl l T s ps)
    (fun a b _ _ C E fl fn T s => thn E fl fn b (E.c fl fn a T s))
    (fun x a b _ _ C E fl fn T s => cnd E fl fn a b T s (ev x ⟨[], T⟩))
    (fun id b _ C E fl fn T s => eBlock id (E.c fl fn b T s))
    (fun kill b _ C E fl fn T s => thn E fl fn (.loop kill b) (E.c fl fn b (tdrop kill T) s))
    (fun g ps a b _ _ C E fl fn T s => eRange C E fl fn ps a b T s (ev g ⟨[], T⟩))
    (fun id _ _ _ _ T s => some (.exit id, T, s))
    (fun _ _ _ _ T s => some (.ret, T, s))
    c C E fl fn T s
theorem code_eq (C : Cfg) (E : Evs) : code C E = eC C E := by
  funext fl fn c T s
  cases c with
  | skip => rfl
  | region l ps => exact reg_eq C E fl l T s ps
  | seq a b => exact thn_eq E fl fn b _
  | cond x a b => show cnd E fl fn a b T s (ev x ⟨[], T⟩) = _; rw [cnd_eq, ev_eq]; rfl
  | block id b => rfl
  | loop kill b => show thn E fl fn (.loop kill b) (E.c fl fn b (tdrop kill T) s) = _; rw [thn_eq, tdrop_eq]; rfl
  | rangeFunc g ps a b => show eRange C E fl fn ps a b T s (ev g ⟨[], T⟩) = _; rw [ev_eq]; rfl
  | exit id => rfl
  | ret => rfl
def lapp (a b : List Value) : List Value := List.rec (motive := fun _ => List Value) b (fun v _ ih => v :: ih) a
theorem lapp_eq : ∀ (a b : List Value), lapp a b = a ++ b
  | [], b => rfl
  | v :: a, b => by show v :: lapp a b = _; rw [lapp_eq a b]; rfl
def resVs (l : List LRes) (s : St) (T : Tmps) : Option (List Value) := List.rec (motive := fun _ => St → Tmps → Option (List Value)) (fun _ _ => some [])
  (fun r _ ih s T => Option.rec (motive := fun _ => Option (List Value) → Option (List Value)) (fun _ => none) (fun v rs => Option.rec (motive := fun _ => Value → Option (List Value)) (fun _ => none) (fun vs v => some (v :: vs)) rs v)
    (LRes.rec (motive := fun _ => St → Tmps → Option Value) (fun t _ T => tget none t T) (fun a g s T => resV s T (.cell a g)) r s T) (ih s T)) l s T
theorem resVs_eq (s : St) (T : Tmps) : ∀ (l : List LRes), resVs l s T = Ev.resVs s T l
  | [] => rfl
  | r :: l => by
    have e : (LRes.rec (motive := fun _ => St → Tmps → Option Value) (fun t _ T => tget none t T) (fun a g s T => resV s T (.cell a g)) r s T) = resV s T r := by
      cases r with
      | tmp t => show tget none t T = Tget T t; rw [tget_eq]; cases Tget T t <;> rfl
      | cell a g => rfl
    show Option.rec (motive := fun _ => Option (List Value) → Option (List Value)) (fun _ => none) (fun v rs => Option.rec (motive := fun _ => Value → Option (List Value)) (fun _ => none) (fun vs v => some (v :: vs)) rs v)
      (LRes.rec (motive := fun _ => St → Tmps → Option Value) (fun t _ T => tget none t T) (fun a g s T => resV s T (.cell a g)) r s T) (resVs l s T) = _
    rw [e, resVs_eq s T l]
    simp only [Ev.resVs]
    cases resV s T r with
    | none => rfl
    | some v => cases Ev.resVs s T l <;> rfl
def fend0 (l : List LRes) (T : Tmps) (s : St) : Option (Value × St) := Option.rec (motive := fun _ => St → Option (Value × St)) (fun _ => none) (fun vs s => some (tupleOf vs, s)) (resVs l s T) s
def fend (s : St) (p : Bool) (l : List LRes) (r : R) : Option (Value × St) := Bool.rec (motive := fun _ => St → List LRes → R → Option (Value × St))
  (fun _ l r => Option.rec (motive := fun _ => List LRes → Option (Value × St)) (fun _ => none) (fun p l => Prod.rec (motive := fun _ => List LRes → Option (Value × St)) (fun x q l => Prod.rec (motive := fun _ => Xit → List LRes → Option (Value × St)) (fun T s x l =>
    Xit.rec (motive := fun _ => List LRes → Tmps → St → Option (Value × St)) (fun l T s => fend0 l T s) (fun _ _ _ _ => none) (fun l T s => fend0 l T s) x l T s) q x l) p l) r l) (fun s l r => eFEnd s true l r) p s l r
theorem fend_eq (s : St) (p : Bool) (l : List LRes) (r : R) : fend s p l r = eFEnd s p l r := by
  cases p with
  | true => rfl
  | false =>
    cases r with
    | none => rfl
    | some q =>
      obtain ⟨x, T, s'⟩ := q
      have key : fend0 l T s' = match Ev.resVs s' T l with | some vs => some (tupleOf vs, if false = true then settle s s' else s') | none => none := by
        unfold fend0; rw [resVs_eq]; cases Ev.resVs s' T l <;> rfl
      cases x with
      | exit i => rfl
      | normal => exact key
      | ret => exact key
def body (C : Cfg) (E : Evs) (fl f : Nat) (args : List Value) (s : St) (F : Option LFunc) : Option (Value × St) := Option.rec (motive := fun _ => Cfg → Evs → Nat → Nat → List Value → St → Option (Value × St)) (fun _ _ _ _ _ _ => none)
  (fun F C E fl f args s => LFunc.rec (motive := fun _ => Cfg → Evs → Nat → Nat → List Value → St → Option (Value × St)) (fun n K res b C E fl f args s => Bool.rec (motive := fun _ => Option (Value × St)) none
    (Bool.rec (motive := fun _ => Option (Value × St)) (fend s false res (E.c fl f b (argsT K 0 args) s)) (eFEnd s true res (E.c s.k f b (argsT K 0 args) s)) (C.pure f)) (Nat.ble args.length n)) F C E fl f args s) F C E fl f args s
theorem body_eq (C : Cfg) (E : Evs) (fl f : Nat) (args : List Value) (s : St) (F : Option LFunc) : body C E fl f args s F = eBody C E fl f args s F := by
  cases F with
  | none => rfl
  | some F =>
    obtain ⟨n, K, res, b⟩ := F
    show Bool.rec (motive := fun _ => Option (Value × St)) none (Bool.rec (motive := fun _ => Option (Value × St)) (fend s false res (E.c fl f b (argsT K 0 args) s)) (eFEnd s true res (E.c s.k f b (argsT K 0 args) s)) (C.pure f)) (Nat.ble args.length n) = _
    rw [fend_eq]
    simp only [eBody]
    cases h : Nat.ble args.length n with
    | false => rw [if_neg (fun h2 => by rw [Nat.ble_eq_true_of_le h2] at h; cases h)]
    | true =>
      rw [if_pos (Nat.le_of_ble_eq_true h)]
      cases C.pure f <;> rfl
def fn (C : Cfg) (E : Evs) (fl f : Nat) (args : List Value) (s : St) : Option (Value × St) := Option.rec (motive := fun _ => Cfg → Evs → Nat → Nat → List Value → St → Option (Value × St)) (fun C E fl f args s => body C E fl f args s (C.funcs f)) (fun p _ _ fl _ args s => p fl args s) (C.prim f) C E fl f args s
theorem fn_eq (C : Cfg) (E : Evs) (fl f : Nat) (args : List Value) (s : St) : fn C E fl f args s = eF C E fl f args s := by
  unfold fn eF
  cases C.prim f with
  | none => exact body_eq C E fl f args s _
  | some p => rfl
def vfn (v : Value) : Option (Fn × List Value × List Value) := Value.rec (motive_1 := fun _ => Option (Fn × List Value × List Value)) (motive_2 := fun _ => PUnit) (motive_3 := fun _ => PUnit) (fun b => none) (fun _ _ => none) (fun _ _ => none) (fun _ _ _ => none) (fun _ => none) (fun _ => none) (fun _ _ _ => none) (fun _ => none) (fun _ => none)
  (fun f a c _ _ => some (f, a.toList, c.toList)) none (fun _ _ _ => none) none (fun _ _ => none) (fun _ _ => none) (fun _ _ => ⟨⟩) ⟨⟩ (fun _ _ _ _ => ⟨⟩) v
def val (C : Cfg) (E : Evs) (fl : Nat) (g : Value) (args : List Value) (s : St) : Option (Value × St) := Option.rec (motive := fun _ => Cfg → Evs → Nat → Value → List Value → St → Option (Value × St)) (fun C E fl g args s => eV C E fl g args s)
  (fun p C E fl g args s => Prod.rec (motive := fun _ => Cfg → Evs → Nat → Value → List Value → St → Option (Value × St)) (fun h q C E fl g args s => Prod.rec (motive := fun _ => Fn → Cfg → Evs → Nat → Value → List Value → St → Option (Value × St)) (fun a c h C E fl g args s =>
    (match h with | .func f => fun a c C E fl g args s => fn C E fl f (lapp a (lapp args c)) s | _ => fun _ _ C E fl g args s => eV C E fl g args s) a c C E fl g args s) q h C E fl g args s) p C E fl g args s) (vfn g) C E fl g args s
theorem val_eq (C : Cfg) (E : Evs) : val C E = eV C E := by
  funext fl g args s
  cases g with
  | func h a c =>
    cases h with
    | func f =>
      show fn C E fl f (lapp a.toList (lapp args c.toList)) s = _
      rw [fn_eq, lapp_eq, lapp_eq, ← List.append_assoc]; rfl
    | _ => rfl
  | _ => rfl
def build (C : Cfg) (E : Evs) : Evs := ⟨code C E, val C E⟩
def mk (C : Cfg) (n : Nat) : Evs := Nat.rec (motive := fun _ => Evs) ⟨fun _ _ _ _ _ => none, fun _ _ _ _ => none⟩ (fun _ E => build C E) n
theorem mk_eq (C : Cfg) (n : Nat) : mk C n = Ev.mk C n := by
  induction n with
  | zero => rfl
  | succ n ih =>
    show build C (mk C n) = Ev.build C (Ev.mk C n)
    rw [ih]
    simp only [build, Ev.build, code_eq, val_eq]
end Fast
end
end Go.Ev
/- Closed runs: over compiled texts that are written out. -/
set_option linter.unusedVariables false
namespace Go.Ev
variable {P : Program}
theorem funRel (hn : namesOk P = true) {f : Nat} {L : LFunc} (h : funsOf P (fun _ => []) f = some L) : FunRel P f L := by
  unfold funsOf at h
  split at h
  · rename_i fn hf; exact fun_rel hf (fun _ => names_of hn hf) h
  · cases h
def ofList {α : Type} : List (Nat × α) → Trie α
  | [] => .leaf
  | (i, x) :: r => (ofList r).set i (some x)
theorem ofList_mem {α : Type} : ∀ (l : List (Nat × α)) (i : Nat) (x : α), (ofList l).get i = some x → (i, x) ∈ l
  | [], i, x, h => by simp [ofList] at h
  | (j, y) :: r, i, x, h => by
    simp only [ofList, Trie.get_set] at h
    split at h
    · rename_i e; injection h with h; subst h; subst e; exact List.mem_cons_self
    · exact List.mem_cons_of_mem _ (ofList_mem r i x h)
def pick (f : Nat) : List (Nat × Prim) → Option Prim
  | [] => none
  | (g, p) :: r => match Nat.beq f g with
    | true => some p
    | false => pick f r
theorem pick_mem {f : Nat} {p : Prim} : ∀ {l : List (Nat × Prim)}, pick f l = some p → (f, p) ∈ l
  | [], h => by cases h
  | (g, q) :: r, h => by
    simp only [pick, nbeq] at h
    by_cases e : f = g
    · subst e
      simp only [decide_true, Option.some.injEq] at h
      subst h; exact List.mem_cons_self
    · simp only [e, decide_false] at h
      exact List.mem_cons_of_mem _ (pick_mem h)
def cfgT (T : Trie LFunc) (prims : List (Nat × Prim)) : Cfg := ⟨fun f => T.get f, fun f => pick f prims, fun _ => false, eqRead⟩
theorem cfgT_ok (hm : P.follows .mixedOrders = true) (hn : namesOk P = true) {l : List (Nat × LFunc)} (hl : ∀ p ∈ l, funsOf P (fun _ => []) p.1 = some p.2) {prims : List (Nat × Prim)} (hp : ∀ p ∈ prims, PrimOk P p.1 p.2) : CfgOk P (cfgT (ofList l) prims) where
  mixed := hm
  eqt := eqRead_eq
  funcs := fun f L _ h => funRel hn (hl (f, L) (ofList_mem l f L h))
  prim := fun f p h => hp (f, p) (pick_mem h)
def isT : Option (Value × St) → Bool
  | some (.bool true, _) => true
  | _ => false
/-- The closed run of a function without arguments. -/
noncomputable def goes (C : Cfg) (f : Nat) : Bool := isT ((Fast.mk C 1000000).v 0 (.func (.func f) #[] #[]) [] ⟨.leaf, .leaf, 0⟩)
theorem calls_true {C : Cfg} (hO : CfgOk P C) (hn : namesOk P = true) {f : Nat} {fn : Func} (hf : P.funcs[f]? = some fn) (hb : fn.body.isSome = true) (h : goes C f = true) (w : World) :
    Calls P f #[] w fun e w' => e = .returned (.bool true) ∧ RowKit.Below w.heap.size w w' := by
  obtain ⟨c, hc⟩ := Option.isSome_iff_exists.1 hb
  refine closed hO hn (n := 1000000) hf hc ?_ w
  unfold goes at h
  rw [Fast.mk_eq] at h
  unfold isT at h
  split at h
  · rename_i s e; rw [e]; rfl
  · cases h
theorem bool_of {C : Cfg} (hO : CfgOk P C) (hn : namesOk P = true) {f : Nat} {fn : Func} (hf : P.funcs[f]? = some fn) (hb : fn.body.isSome = true) (h : goes C f = true) : PrimOk P f (boolP true) := by
  obtain ⟨c, hc⟩ := Option.isSome_iff_exists.1 hb
  exact bool_ok hf hc (names_of hn hf) fun w => calls_true hO hn hf hb h w
end Go.Ev
