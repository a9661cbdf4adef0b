/- The interpreter of closed calls, and that it is right (part XB): a run of it that ends well tells what the call in the model gives. Conditions: none. -/
import Derived.Test.YtnbgklfnaagklaaGreatDoorXA
import Derived.WalkKit
import Derived.OwnWalk
import Derived.Laws.StructEq
import Derived.Lib.Builder
import Derived.Laws.Strings
import Derived.ChangeKeysEq
import Derived.Laws.BytesString
set_option linter.unusedVariables false
set_option linter.unusedSimpArgs false
/- The interpreter is right, part 1: words and their laws; tries; numbers. -/
namespace Go.X
open Go

@[simp] theorem force_eq {R : Type} (n : Nat) (k : Nat → R) : force n k = k n := by cases n <;> rfl
@[simp] theorem forceI_eq {R : Type} (n : Int) (k : Int → R) : forceI n k = k n := by cases n <;> simp [forceI]
@[simp] theorem forceL_eq {α R : Type} (l : List α) (k : List α → R) : forceL l k = k l := by
  induction l generalizing k with
  | nil => rfl
  | cons a l ih => show forceL l (fun r => k (a :: r)) = _; rw [ih]
@[simp] theorem forceLN_eq {R : Type} (l : List Nat) (k : List Nat → R) : forceLN l k = k l := by
  induction l generalizing k with
  | nil => rfl
  | cons a l ih => show force a (fun a => forceLN l (fun r => k (a :: r))) = _; rw [force_eq, ih]

@[simp] theorem E.b_ok {α β : Type} (a : α) (f : α → E β) : (E.ok a).b f = f a := rfl
@[simp] theorem E.b_er {α β : Type} (s : Nat) (f : α → E β) : (E.er s : E α).b f = .er s := rfl
theorem E.b_inv {α β : Type} {x : E α} {f : α → E β} {r : β} (h : x.b f = .ok r) : ∃ a, x = .ok a ∧ f a = .ok r := by
  cases x with
  | ok a => exact ⟨a, rfl, h⟩
  | er s => nomatch (show (E.er s : E β) = .ok r from h)
theorem E.whn_inv {α : Type} {c : Bool} {s : Nat} {x : E α} {r : α} (h : E.whn c s x = .ok r) : c = true ∧ x = .ok r := by
  cases c with
  | true => exact ⟨rfl, h⟩
  | false => nomatch (show (E.er s : E α) = .ok r from h)
theorem E.of_inv {α : Type} {s : Nat} {x : Option α} {r : α} (h : E.of s x = .ok r) : x = some r := by
  cases x with
  | some a => cases h; rfl
  | none => nomatch (show (E.er s : E α) = .ok r from h)
@[simp] theorem okBool_eq {α : Type} (f : Bool → α) (b : Bool) : okBool f b = .ok (f b) := by cases b <;> rfl

theorem eqL_iff : ∀ {a b : List Nat}, eqL a b = true ↔ a = b
  | [], [] => ⟨fun _ => rfl, fun _ => rfl⟩
  | [], b :: s => ⟨fun h => (nomatch (show false = true from h)), fun h => (nomatch h)⟩
  | a :: r, [] => ⟨fun h => (nomatch (show false = true from h)), fun h => (nomatch h)⟩
  | a :: r, b :: s => by
    show (Bool.rec (motive := fun _ => Bool) false (eqL r s) (Nat.beq a b) : Bool) = true ↔ _
    cases h : Nat.beq a b with
    | false =>
      have : a ≠ b := fun e => by subst e; simp at h
      simp [this]
    | true =>
      have := Nat.eq_of_beq_eq_true h
      simp [this, eqL_iff (a := r) (b := s)]
theorem eqL_eq (a b : List Nat) : eqL a b = decide (a = b) := by rw [Bool.eq_iff_iff, eqL_iff, decide_eq_true_iff]
theorem nbeq_eq (a b : Nat) : Nat.beq a b = decide (a = b) := by
  rw [Bool.eq_iff_iff, decide_eq_true_iff]; exact ⟨Nat.eq_of_beq_eq_true, fun h => by subst h; simp⟩
theorem nblt_eq (a b : Nat) : Nat.blt a b = decide (a < b) := by
  rw [Bool.eq_iff_iff, decide_eq_true_iff]; exact ⟨fun h => Nat.le_of_ble_eq_true h, fun h => Nat.ble_eq_true_of_le h⟩
theorem nble_eq (a b : Nat) : Nat.ble a b = decide (a ≤ b) := by
  rw [Bool.eq_iff_iff, decide_eq_true_iff]; exact ⟨Nat.le_of_ble_eq_true, Nat.ble_eq_true_of_le⟩
theorem eqI_eq (a b : Int) : eqI a b = decide (a = b) := by
  cases a <;> cases b <;> simp [eqI, nbeq_eq] <;> omega
theorem ltI_eq (a b : Int) : ltI a b = decide (a < b) := by
  cases a with
  | ofNat m => cases b with
    | ofNat n => simp [ltI, nblt_eq]
    | negSucc n => simp only [ltI]; symm; rw [decide_eq_false_iff_not]; simp only [Int.ofNat_eq_natCast]; omega
  | negSucc m => cases b with
    | ofNat n => simp only [ltI]; symm; rw [decide_eq_true_iff]; simp only [Int.ofNat_eq_natCast]; omega
    | negSucc n => simp only [ltI, nblt_eq]; rw [decide_eq_decide]; omega
theorem eqB_eq (a b : Bool) : eqB a b = (a == b) := by cases a <;> cases b <;> rfl
theorem eqK_iff {a b : IntKind} : eqK a b = true ↔ a = b := by cases a <;> cases b <;> simp [eqK, IntKind.ctorIdx, nbeq_eq]
theorem eqFK_iff {a b : FloatKind} : eqFK a b = true ↔ a = b := by cases a <;> cases b <;> simp [eqFK, FloatKind.ctorIdx, nbeq_eq]
theorem eqON_iff {a b : Option Nat} : eqON a b = true ↔ a = b := by cases a <;> cases b <;> simp [eqON, nbeq_eq]
theorem lenN_eq {α : Type} (l : List α) : lenN l = l.length := by
  induction l with
  | nil => rfl
  | cons a l ih => show Nat.succ (lenN l) = _; rw [ih]; rfl
theorem allOne_eq (l : List AV) : allOne l = l.all AV.one := by
  induction l with
  | nil => rfl
  | cons a l ih => show (Bool.rec (motive := fun _ => Bool) false (allOne l) a.one : Bool) = _; rw [ih]; cases h : a.one <;> simp [h]
theorem nthL_eq {α : Type} (l : List α) (i : Nat) : nthL l i = l[i]? := by
  induction l generalizing i with
  | nil => rfl
  | cons a l ih => cases i with
    | zero => rfl
    | succ i => exact ih i
theorem wrapF_eq (k : IntKind) (n : Int) : wrapF k n = k.wrap n := by
  cases n with
  | negSucc m => rfl
  | ofNat m =>
    show (Bool.rec (motive := fun _ => Int) (k.wrap (Int.ofNat m)) (Int.ofNat m) (Nat.blt m (Nat.pow 2 (k.bits - 1)))) = _
    cases h : Nat.blt m (Nat.pow 2 (k.bits - 1)) with
    | false => rfl
    | true =>
      rw [nblt_eq, decide_eq_true_iff] at h
      have h1 : (2 : Nat) ^ k.bits = 2 * 2 ^ (k.bits - 1) := by cases k <;> rfl
      have h2 : m < 2 ^ (k.bits - 1) := h
      simp only [IntKind.wrap]
      have e1 : ((2 : Nat) ^ k.bits : Nat) = ((2 : Int) ^ k.bits) := by simp
      have e2 : ((2 : Nat) ^ (k.bits - 1) : Nat) = ((2 : Int) ^ (k.bits - 1)) := by simp
      have h3 : (Int.ofNat m) % (2 ^ k.bits : Int) = Int.ofNat m := Int.emod_eq_of_lt (by simp) (by rw [← e1, Int.ofNat_eq_natCast]; omega)
      rw [h3]
      have h4 : ¬ (Int.ofNat m ≥ (2 ^ (k.bits - 1) : Int)) := by rw [← e2, Int.ofNat_eq_natCast]; omega
      simp [h4]
      intro _ h5
      exact absurd h5 h4
theorem whn_ok {α : Type} {c : Bool} {s : Nat} {x : E α} (h : c = true) : E.whn c s x = x := by subst h; rfl

/-! ### Tries -/
@[simp] theorem Tr.putK_eq {α R : Type} (a : α) (p : List Bool) (t : Tr α) (k : Tr α → R) : Tr.putK a p t k = k (Tr.put a p t) := by
  induction p generalizing t k with
  | nil => rfl
  | cons b p ih =>
    cases t with
    | e => cases b <;> exact ih _ _
    | l x => cases b <;> exact ih _ _
    | n x y => cases b <;> exact ih _ _
@[simp] theorem Tr.delK_eq {α R : Type} (p : List Bool) (t : Tr α) (k : Tr α → R) : Tr.delK p t k = k (Tr.del p t) := by
  induction p generalizing t k with
  | nil => rfl
  | cons b p ih =>
    cases t with
    | e => rfl
    | l x => rfl
    | n x y => cases b <;> exact ih _ _
theorem Tr.get_put {α : Type} (a : α) : ∀ (p q : List Bool) (t : Tr α), p.length = q.length → Tr.get q (Tr.put a p t) = if p = q then some a else Tr.get q t
  | [], [], t, _ => rfl
  | b :: p, c :: q, t, h => by
    have hl : p.length = q.length := by simpa using h
    have ih := fun t => Tr.get_put a p q t hl
    have emp : ∀ {α : Type} (q : List Bool), Tr.get q (Tr.e : Tr α) = none := fun q => by cases q <;> rfl
    have hd : ∀ (x y : Tr α), Tr.get (c :: q) (.n x y) = if c then Tr.get q y else Tr.get q x := by intro x y; cases c <;> rfl
    have hp : ∀ t, Tr.put a (b :: p) t = match t with | .n x y => if b then .n x (Tr.put a p y) else .n (Tr.put a p x) y | _ => if b then .n .e (Tr.put a p .e) else .n (Tr.put a p .e) .e := by
      intro t; cases t <;> cases b <;> rfl
    have ht : Tr.get (c :: q) t = match t with | .n x y => if c then Tr.get q y else Tr.get q x | _ => none := by cases t <;> cases c <;> rfl
    rw [hp, ht]
    cases t with
    | e => cases b <;> cases c <;> simp [hd, ih, emp]
    | l x => cases b <;> cases c <;> simp [hd, ih, emp]
    | n x y => cases b <;> cases c <;> simp [hd, ih]
  | [], _ :: _, _, h => by simp at h
  | _ :: _, [], _, h => by simp at h
theorem Tr.get_del {α : Type} : ∀ (p q : List Bool) (t : Tr α), p.length = q.length → Tr.get q (Tr.del p t) = if p = q then none else Tr.get q t
  | [], [], t, _ => rfl
  | b :: p, c :: q, t, h => by
    have hl : p.length = q.length := by simpa using h
    have ih := fun t => Tr.get_del (α := α) p q t hl
    cases t with
    | e => have : Tr.get (c :: q) (Tr.del (b :: p) (Tr.e : Tr α)) = none := rfl
           rw [this]; have : Tr.get (c :: q) (Tr.e : Tr α) = none := rfl
           rw [this]; simp
    | l x => have : Tr.get (c :: q) (Tr.del (b :: p) (Tr.l x : Tr α)) = none := rfl
             rw [this]; have : Tr.get (c :: q) (Tr.l x : Tr α) = none := rfl
             rw [this]; simp
    | n x y =>
      cases b <;> cases c
      · show Tr.get q (Tr.del p x) = if _ then _ else Tr.get q x; rw [ih]; simp
      · show Tr.get q y = if _ then _ else Tr.get q y; simp
      · show Tr.get q x = if _ then _ else Tr.get q x; simp
      · show Tr.get q (Tr.del p y) = if _ then _ else Tr.get q y; rw [ih]; simp
  | [], _ :: _, _, h => by simp at h
  | _ :: _, [], _, h => by simp at h

theorem path_succ (d i : Nat) : path (d + 1) i = Nat.beq (Nat.mod (Nat.div i (Nat.pow 2 d)) 2) 1 :: path d i := rfl
@[simp] theorem path_len (d i : Nat) : (path d i).length = d := by
  induction d with
  | zero => rfl
  | succ d ih => rw [path_succ, List.length_cons, ih]
def ofBits : List Bool → Nat
  | [] => 0
  | b :: p => (if b then 2 ^ p.length else 0) + ofBits p
theorem ofBits_path (d i : Nat) : ofBits (path d i) = i % 2 ^ d := by
  induction d with
  | zero => simp [path, ofBits, Nat.mod_one]
  | succ d ih =>
    rw [path_succ, ofBits, ih, path_len, Nat.mod_pow_succ]
    have hb : Nat.beq (Nat.mod (Nat.div i (Nat.pow 2 d)) 2) 1 = decide (i / 2 ^ d % 2 = 1) := nbeq_eq _ _
    rw [hb]
    have := Nat.mod_two_eq_zero_or_one (i / 2 ^ d)
    rcases this with h | h <;> simp [h]
    omega
theorem path_inj {d i j : Nat} (hi : i < 2 ^ d) (hj : j < 2 ^ d) (h : path d i = path d j) : i = j := by
  have := congrArg ofBits h
  rwa [ofBits_path, ofBits_path, Nat.mod_eq_of_lt hi, Nat.mod_eq_of_lt hj] at this
theorem get_put_path {α : Type} (a : α) {d i j : Nat} (t : Tr α) (hi : i < 2 ^ d) (hj : j < 2 ^ d) : Tr.get (path d j) (Tr.put a (path d i) t) = if i = j then some a else Tr.get (path d j) t := by
  rw [Tr.get_put _ _ _ _ (by simp)]
  by_cases h : i = j
  · subst h; simp
  · rw [if_neg h, if_neg (fun e => h (path_inj hi hj e))]
theorem get_del_path {α : Type} {d i j : Nat} (t : Tr α) (hi : i < 2 ^ d) (hj : j < 2 ^ d) : Tr.get (path d j) (Tr.del (path d i) t) = if i = j then none else Tr.get (path d j) t := by
  rw [Tr.get_del _ _ _ (by simp)]
  by_cases h : i = j
  · subst h; simp
  · rw [if_neg h, if_neg (fun e => h (path_inj hi hj e))]

/-- Cells laid one behind the other. -/
theorem putCs_eq {R : Type} (d : Nat) (vs : List AV) : ∀ (off : Nat) (t : Tr AV) (k : Tr AV → R), putCs d vs off t k = k (putCs d vs off t id) := by
  induction vs with
  | nil => intro off t k; rfl
  | cons v vs ih =>
    intro off t k
    show Tr.putK v (path d off) t (fun t => force (Nat.succ off) fun o => putCs d vs o t k) = k (Tr.putK v (path d off) t (fun t => force (Nat.succ off) fun o => putCs d vs o t id))
    simp only [Tr.putK_eq, force_eq]
    exact ih _ _ k
noncomputable def putT (d : Nat) (vs : List AV) (off : Nat) (t : Tr AV) : Tr AV := putCs d vs off t id
theorem putT_cons (d : Nat) (v : AV) (vs : List AV) (off : Nat) (t : Tr AV) : putT d (v :: vs) off t = putT d vs (off + 1) (Tr.put v (path d off) t) := by
  show Tr.putK v (path d off) t (fun t => force (Nat.succ off) fun o => putCs d vs o t id) = _
  simp only [Tr.putK_eq, force_eq]; rfl
theorem get_putT {d : Nat} : ∀ (vs : List AV) (off : Nat) (t : Tr AV) (j : Nat), off + vs.length ≤ 2 ^ d → j < 2 ^ d →
    Tr.get (path d j) (putT d vs off t) = if off ≤ j ∧ j < off + vs.length then vs[j - off]? else Tr.get (path d j) t
  | [], off, t, j, _, _ => by rw [if_neg (by simp only [List.length_nil]; omega)]; rfl
  | v :: vs, off, t, j, h, hj => by
    simp only [List.length_cons] at h
    rw [putT_cons, get_putT vs (off + 1) _ j (by omega) hj]
    by_cases h1 : j = off
    · subst h1
      rw [if_neg (by omega), if_pos (by simp), get_put_path _ _ (by omega) hj]
      simp
    · by_cases h2 : off + 1 ≤ j ∧ j < off + 1 + vs.length
      · rw [if_pos h2, if_pos (by simp only [List.length_cons]; omega)]
        have : j - off = (j - (off + 1)) + 1 := by omega
        rw [this, List.getElem?_cons_succ]
      · rw [if_neg h2, if_neg (by simp only [List.length_cons]; omega), get_put_path _ _ (by omega) hj, if_neg (by omega)]
end Go.X

/- The interpreter is right, part 2: what a value, an object, memory say of the world. -/
namespace Go.X
open Go

structure Blk where
  b : Nat
  base : Nat
  k : Nat
  sz : Nat
abbrev Gh := Nat → Option Blk
def Gh.le (G G' : Gh) : Prop := ∀ id x, G id = some x → G' id = some x
theorem Gh.le_refl (G : Gh) : G.le G := fun _ _ h => h
theorem Gh.le_trans {a b c : Gh} (h : a.le b) (k : b.le c) : a.le c := fun i x q => k i x (h i x q)

inductive VRel (G : Gh) : AV → Value → Prop
  | bool (b : Bool) : VRel G (.bool b) (.bool b)
  | int (k : IntKind) (n : Int) : VRel G (.int k n) (.int k n)
  | flt (k : FloatKind) (n : Nat) : VRel G (.flt k n) (.float k n)
  | cpx (k : FloatKind) (a b : Nat) : VRel G (.cpx k a b) (.complex k a b)
  | str {l : List Nat} {s : ByteArray} (h : bytesL s = l) : VRel G (.str l) (.string s)
  | nilp : VRel G .nilp (.pointer none)
  | ptr {id off : Nat} {x : Blk} (h : G id = some x) : VRel G (.ptr id off) (.pointer (some ⟨x.b, x.base + off, none⟩))
  | nils : VRel G .nils (.slice none 0 0)
  | sl {id off len cap o : Nat} {c : Option Nat} {x : Blk} (h : G id = some x) (hl : len ≤ cap) (hm : cap ≤ maxLen) (hc : ∀ n, c = some n → n = cap) (ho : cap = 0 ∨ o = x.base + off) (hs : cap = 0 ∨ off + cap * x.k ≤ x.sz) :
      VRel G (.sl id off len c) (.slice (some ⟨x.b, o, none⟩) len cap)
  | nilm : VRel G .nilm (.map none)
  | mref {id : Nat} {x : Blk} (h : G id = some x) : VRel G (.mref id) (.map (some x.b))
  | fn {f : Fn} {first cap : List AV} {fv cv : Array Value} (l1 : first.length = fv.size) (l2 : cap.length = cv.size)
      (h1 : ∀ i (h : i < first.length), VRel G first[i] (fv.getD i undef)) (h2 : ∀ i (h : i < cap.length), VRel G cap[i] (cv.getD i undef)) : VRel G (.fn f first cap) (.func f fv cv)
  | yld {id : Nat} {x : Blk} (h : G id = some x) : VRel G (.yld id) (.func (.yield x.b) #[] #[])
  | nilf : VRel G .nilf .nilFunc
  | ifc {t : TypeId} {a : AV} {v : Value} (h : VRel G a v) : VRel G (.ifc t a) (.iface t v)
  | nili : VRel G .nili .nilIface
  | agg {cs : List AV} {c : Array Value} (l : cs.length = c.size) (h : ∀ i (h : i < cs.length), VRel G cs[i] (c.getD i undef)) : VRel G (.agg cs) (.agg c)
  | tup {cs : List AV} {c : Array Value} (l : cs.length = c.size) (h : ∀ i (h : i < cs.length), VRel G cs[i] (c.getD i undef)) : VRel G (.tup cs) (.tuple c)
  | bad (v : Value) : VRel G .bad v

theorem VRel.mono {G G' : Gh} (hle : G.le G') {a : AV} {v : Value} (h : VRel G a v) : VRel G' a v := by
  induction h with
  | bool b => exact .bool b
  | int k n => exact .int k n
  | flt k n => exact .flt k n
  | cpx k a b => exact .cpx k a b
  | str h => exact .str h
  | nilp => exact .nilp
  | ptr h => exact .ptr (hle _ _ h)
  | nils => exact .nils
  | sl h hl hm hc ho hs => exact .sl (hle _ _ h) hl hm hc ho hs
  | nilm => exact .nilm
  | mref h => exact .mref (hle _ _ h)
  | fn l1 l2 _ _ i1 i2 => exact .fn l1 l2 i1 i2
  | yld h => exact .yld (hle _ _ h)
  | nilf => exact .nilf
  | ifc _ ih => exact .ifc ih
  | nili => exact .nili
  | agg l _ ih => exact .agg l ih
  | tup l _ ih => exact .tup l ih
  | bad v => exact .bad v

/-- Values in a row, of which that is said. -/
def VRels (G : Gh) (as : List AV) (vs : List Value) : Prop := as.length = vs.length ∧ ∀ i (h : i < as.length), VRel G as[i] (vs.getD i undef)
theorem VRels.mono {G G' : Gh} (hle : G.le G') {a : List AV} {v : List Value} (h : VRels G a v) : VRels G' a v := ⟨h.1, fun i hi => (h.2 i hi).mono hle⟩
theorem VRels.nil (G : Gh) : VRels G [] [] := ⟨rfl, fun i h => absurd h (by simp)⟩
theorem VRels.cons {G : Gh} {a : AV} {v : Value} {as : List AV} {vs : List Value} (h : VRel G a v) (hs : VRels G as vs) : VRels G (a :: as) (v :: vs) :=
  ⟨by simp [hs.1], fun i hi => by cases i with
    | zero => exact h
    | succ i => have := hs.2 i (by simpa using hi); simpa using this⟩
theorem VRels.head {G : Gh} {a : AV} {v : Value} {as : List AV} {vs : List Value} (h : VRels G (a :: as) (v :: vs)) : VRel G a v ∧ VRels G as vs :=
  ⟨h.2 0 (by simp), by have := h.1; simpa using this, fun i hi => by have := h.2 (i + 1) (by simpa using hi); simpa using this⟩
theorem VRels.cons_inv {G : Gh} {a : AV} {as : List AV} {vs : List Value} (h : VRels G (a :: as) vs) : ∃ v us, vs = v :: us ∧ VRel G a v ∧ VRels G as us := by
  cases vs with
  | nil => have := h.1; simp at this
  | cons v us => exact ⟨v, us, rfl, h.head⟩
theorem VRels.nil_inv {G : Gh} {vs : List Value} (h : VRels G [] vs) : vs = [] := by
  cases vs with
  | nil => rfl
  | cons v us => have := h.1; simp at this
theorem VRels.append {G : Gh} : ∀ {as bs : List AV} {vs us : List Value}, VRels G as vs → VRels G bs us → VRels G (as ++ bs) (vs ++ us)
  | [], _, vs, _, h, k => by have := h.nil_inv; subst this; exact k
  | a :: as, bs, vs, us, h, k => by
    obtain ⟨v, vs', rfl, h1, h2⟩ := h.cons_inv
    exact .cons h1 (h2.append k)
theorem VRels.take {G : Gh} {as : List AV} {vs : List Value} (h : VRels G as vs) (n : Nat) : VRels G (as.take n) (vs.take n) :=
  ⟨by simp [h.1], fun i hi => by
    have h1 : i < n ∧ i < as.length := by simp at hi; omega
    have := h.2 i h1.2
    have e : (vs.take n).getD i undef = vs.getD i undef := by simp [List.getD_eq_getElem?_getD, List.getElem?_take_of_lt h1.1]
    rw [e]; simpa using this⟩
theorem VRels.drop {G : Gh} {as : List AV} {vs : List Value} (h : VRels G as vs) (n : Nat) : VRels G (as.drop n) (vs.drop n) :=
  ⟨by simp [h.1], fun i hi => by
    have h1 : n + i < as.length := by simp at hi; omega
    have := h.2 (n + i) h1
    have e : (vs.drop n).getD i undef = vs.getD (n + i) undef := by simp [List.getD_eq_getElem?_getD]
    rw [e]; simpa using this⟩
theorem VRels.get {G : Gh} {as : List AV} {vs : List Value} (h : VRels G as vs) {i : Nat} {a : AV} (hi : as[i]? = some a) : ∃ v, vs[i]? = some v ∧ VRel G a v := by
  obtain ⟨hl, rfl⟩ := List.getElem?_eq_some_iff.1 hi
  have hv : i < vs.length := h.1 ▸ hl
  refine ⟨vs[i], by simp [hv], ?_⟩
  have := h.2 i hl
  simpa [List.getD_eq_getElem?_getD, hv] using this
theorem VRels.of_fn {G : Gh} {as : List AV} {f : Nat → Value} (h : ∀ i (h : i < as.length), VRel G as[i] (f i)) : VRels G as ((List.range as.length).map f) :=
  ⟨by simp, fun i hi => by have := h i hi; simpa [List.getD_eq_getElem?_getD, hi] using this⟩
theorem VRels.map {α : Type} {G : Gh} {f : α → AV} {g : α → Value} (h : ∀ x, VRel G (f x) (g x)) (l : List α) : VRels G (l.map f) (l.map g) := by
  induction l with
  | nil => exact .nil G
  | cons a l ih => exact .cons (h a) ih
theorem VRels.replicate {G : Gh} {a : List AV} {v : List Value} (h : VRels G a v) (n : Nat) : VRels G (List.replicate n a).flatten (List.replicate n v).flatten := by
  induction n with
  | zero => exact .nil G
  | succ n ih => simp only [List.replicate_succ, List.flatten_cons]; exact h.append ih
theorem VRel.ofAgg {G : Gh} {cs : List AV} {c : Array Value} (h : VRels G cs c.toList) : VRel G (.agg cs) (.agg c) :=
  .agg (by simpa using h.1) (fun i hi => by have := h.2 i hi; simpa [Array.getD_eq_getD_getElem?, List.getD_eq_getElem?_getD] using this)
theorem VRel.ofTup {G : Gh} {cs : List AV} {c : Array Value} (h : VRels G cs c.toList) : VRel G (.tup cs) (.tuple c) :=
  .tup (by simpa using h.1) (fun i hi => by have := h.2 i hi; simpa [Array.getD_eq_getD_getElem?, List.getD_eq_getElem?_getD] using this)
theorem VRel.ofFn {G : Gh} {f : Fn} {a b : List AV} {fv cv : Array Value} (h : VRels G a fv.toList) (k : VRels G b cv.toList) : VRel G (.fn f a b) (.func f fv cv) :=
  .fn (by simpa using h.1) (by simpa using k.1) (fun i hi => by have := h.2 i hi; simpa [Array.getD_eq_getD_getElem?, List.getD_eq_getElem?_getD] using this)
    (fun i hi => by have := k.2 i hi; simpa [Array.getD_eq_getD_getElem?, List.getD_eq_getElem?_getD] using this)
theorem vrels_of_getD {G : Gh} {cs : List AV} {c : Array Value} (l : cs.length = c.size) (h : ∀ i (h : i < cs.length), VRel G cs[i] (c.getD i undef)) : VRels G cs c.toList :=
  ⟨by simpa using l, fun i hi => by have := h i hi; simpa [Array.getD_eq_getD_getElem?, List.getD_eq_getElem?_getD] using this⟩
theorem VRel.agg_inv {G : Gh} {cs : List AV} {v : Value} (h : VRel G (.agg cs) v) : ∃ c : Array Value, v = .agg c ∧ VRels G cs c.toList := by
  cases h with | agg l h => exact ⟨_, rfl, vrels_of_getD l h⟩
theorem VRel.tup_inv {G : Gh} {cs : List AV} {v : Value} (h : VRel G (.tup cs) v) : ∃ c : Array Value, v = .tuple c ∧ VRels G cs c.toList := by
  cases h with | tup l h => exact ⟨_, rfl, vrels_of_getD l h⟩
theorem VRel.fn_inv {G : Gh} {f : Fn} {a b : List AV} {v : Value} (h : VRel G (.fn f a b) v) : ∃ fv cv : Array Value, v = .func f fv cv ∧ VRels G a fv.toList ∧ VRels G b cv.toList := by
  cases h with | fn l1 l2 h1 h2 => exact ⟨_, _, rfl, vrels_of_getD l1 h1, vrels_of_getD l2 h2⟩

theorem VRel.one {G : Gh} {a : AV} {v : Value} (h : VRel G a v) (h1 : a.one = true) : v.oneCell' = true := by
  cases h <;> first | rfl | simp [AV.one] at h1
/-- A value's cells. -/
theorem VRel.cellsR {G : Gh} {a : AV} {v : Value} (h : VRel G a v) (h1 : a.cells.all AV.one = true) : VRels G a.cells v.cells.toList := by
  have key : ∀ {a : AV} {v : Value}, VRel G a v → a.cells = [a] → v.cells = #[v] → VRels G a.cells v.cells.toList := by
    intro a v h e1 e2
    rw [e1, e2]; exact .cons h (.nil G)
  cases h with
  | agg l h => exact vrels_of_getD l h
  | bad v => simp [AV.cells, AV.one] at h1
  | bool b => exact key (.bool b) rfl rfl
  | int k n => exact key (.int k n) rfl rfl
  | flt k n => exact key (.flt k n) rfl rfl
  | cpx k a b => exact key (.cpx k a b) rfl rfl
  | str h => exact key (.str h) rfl rfl
  | nilp => exact key .nilp rfl rfl
  | ptr h => exact key (.ptr h) rfl rfl
  | nils => exact key .nils rfl rfl
  | sl h hl hm hc ho hs => exact key (.sl h hl hm hc ho hs) rfl rfl
  | nilm => exact key .nilm rfl rfl
  | mref h => exact key (.mref h) rfl rfl
  | fn l1 l2 a1 a2 => exact key (.fn l1 l2 a1 a2) rfl rfl
  | yld h => exact key (.yld h) rfl rfl
  | nilf => exact key .nilf rfl rfl
  | ifc h => exact key (.ifc h) rfl rfl
  | nili => exact key .nili rfl rfl
  | tup l hh => simp [AV.cells, AV.one] at h1
theorem VRels.ones {G : Gh} {as : List AV} {vs : List Value} (h : VRels G as vs) (h1 : as.all AV.one = true) : ∀ v ∈ vs, v.oneCell' = true := by
  intro v hv
  obtain ⟨i, hi, rfl⟩ := List.mem_iff_getElem.1 hv
  have hi' : i < as.length := h.1 ▸ hi
  have := h.2 i hi'
  have ho : as[i].one = true := List.all_eq_true.1 h1 _ (List.getElem_mem _)
  have := this.one ho
  simpa [List.getD_eq_getElem?_getD, hi] using this

/-! ### Objects -/
/-- What is kept of a frame's temporaries. -/
def BRel (G : Gh) (m d : Nat) (base : Tr AV) (tmps : Array Value) : Prop := ∀ t, m.testBit t = true → t < 2 ^ d → ∀ a, Tr.get (path d t) base = some a → VRel G a (tmps.getD t undef)
def LocRel (G : Gh) (loc : List (Nat × AV)) (tmps : Array Value) : Prop := ∀ t a, locGet t loc = some a → VRel G a (tmps.getD t undef)
def ERel (G : Gh) (m d : Nat) (en : XEnv) (tmps : Array Value) : Prop := LocRel G en.loc tmps ∧ BRel G m d en.base tmps

inductive TgtRel (G : Gh) : XTgt → Target → Prop
  | fn {f : Fn} {cap : List AV} {c : Array Value} (h : VRels G cap c.toList) : TgtRel G (.fn f cap) (.fn f c)
  | yld {l : Nat} {x : Blk} (h : G l = some x) : TgtRel G (.yld l) (.fn (.yield x.b) #[])
  | builtin (b : Builtin) (ts : Array TypeId) (ty : TypeId) (cs : Array Bool) : TgtRel G (.builtin b ts ty) (.builtin b ts ty cs)
  | collected {r : Nat} {x : Blk} (h : G r = some x) : TgtRel G (.collected r) (.collected x.b)
theorem TgtRel.mono {G G' : Gh} (hle : G.le G') {a : XTgt} {b : Target} (h : TgtRel G a b) : TgtRel G' a b := by
  cases h with
  | fn h => exact .fn (h.mono hle)
  | yld h => exact .yld (hle _ _ h)
  | builtin b ts ty cs => exact .builtin b ts ty cs
  | collected h => exact .collected (hle _ _ h)
def DefRel (G : Gh) (a : XDef) (b : Deferred) : Prop := TgtRel G a.tgt b.target ∧ VRels G a.args b.args.toList
theorem DefRel.mono {G G' : Gh} (hle : G.le G') {a : XDef} {b : Deferred} (h : DefRel G a b) : DefRel G' a b := ⟨h.1.mono hle, h.2.mono hle⟩
inductive All2 {α β : Type} (R : α → β → Prop) : List α → List β → Prop
  | nil : All2 R [] []
  | cons {a : α} {b : β} {l : List α} {m : List β} (h : R a b) (t : All2 R l m) : All2 R (a :: l) (b :: m)
theorem All2.imp {α β : Type} {R S : α → β → Prop} (h : ∀ a b, R a b → S a b) {l : List α} {m : List β} (k : All2 R l m) : All2 S l m := by
  induction k with
  | nil => exact .nil
  | cons x _ ih => exact .cons (h _ _ x) ih
theorem All2.append {α β : Type} {R : α → β → Prop} {l l' : List α} {m m' : List β} (h : All2 R l m) (k : All2 R l' m') : All2 R (l ++ l') (m ++ m') := by
  induction h with
  | nil => exact k
  | cons x _ ih => exact .cons x ih
abbrev DefsRel (G : Gh) : List XDef → List Deferred → Prop := All2 (DefRel G)
theorem DefsRel.mono {G G' : Gh} (hle : G.le G') {a : List XDef} {b : List Deferred} (h : DefsRel G a b) : DefsRel G' a b := h.imp fun _ _ => DefRel.mono hle

/-- What a run is over: what is known; blocks of others that may be seen. -/
structure Cx where
  K : Kn
  S : Nat → Prop
/-- How many temporaries a function has. -/
noncomputable def Cx.nt (C : Cx) (f : FuncId) : Nat := ((C.K.fn f).un.map (·.ntmps)).getD 0
def Cx.okC (C : Cx) (f : FuncId) (c : Code) : Prop := okCode (C.nt f) c = true

def LpRel (C : Cx) (G : Gh) (l : XLoop) (l' : Loop) : Prop :=
  l.state = l'.state ∧ l.pending = l'.pending ∧ l.fn = l'.fn ∧ l.params = l'.params ∧ l.assign = l'.assign ∧ l.body = l'.body ∧
  (∃ x, G l.defers = some x ∧ x.b = l'.defers) ∧ l.env.loc = [] ∧ BRel G (C.K.mask l.fn).1 (C.K.mask l.fn).2 l.env.base l'.tmps ∧ l'.tmps.size = C.nt l.fn ∧ C.okC l.fn l.assign ∧ C.okC l.fn l.body ∧
  (∀ t ∈ l.params, t < C.nt l.fn) ∧ (∀ c, l.pending = some c → C.okC l.fn c)
def EntRel (G : Gh) (a : XEnt) (b : MapEntry) : Prop := VRel G a.key b.key ∧ VRel G a.val b.val ∧ a.born = b.born

def ORel (C : Cx) (G : Gh) (w : World) (x : Blk) : XObj → Prop
  | .arr e ex k d n cs ro => x.k = k ∧ n ≤ 2 ^ d ∧ n ≤ x.sz ∧ ∃ c el fr, w.heap[x.b]? = some (.cells c el fr) ∧ (ro = false → fr = (0, 0)) ∧ x.base + x.sz ≤ c.size ∧ (∀ t, e = some t → el = t) ∧
      (ex = true → x.base = 0 ∧ c.size = n) ∧ ∀ j, j < n → ∃ a, Tr.get (path d j) cs = some a ∧ a.one = true ∧ VRel G a (c.getD (x.base + j) undef)
  | .map es ck => ∃ en, w.heap[x.b]? = some (.map en ck) ∧ All2 (EntRel G) es en.toList
  | .siter s pos => ∃ s', w.heap[x.b]? = some (.stringIter s' pos) ∧ bytesL s' = s ∧ x.base = 0
  | .miter m since seen last => ∃ m', w.heap[x.b]? = some (.mapIter m' since seen.toArray last) ∧ (match m with | none => m' = none | some id => ∃ y, G id = some y ∧ m' = some y.b) ∧ x.base = 0
  | .loop l => ∃ l', w.heap[x.b]? = some (.loop l') ∧ LpRel C G l l'
  | .deferred ds => ∃ ds', w.heap[x.b]? = some (.deferred ds') ∧ (match ds with | none => ds' = none | some l => ∃ l', ds' = some l' ∧ DefsRel G l l')

theorem BRel.mono {G G' : Gh} (hle : G.le G') {m d : Nat} {base : Tr AV} {tmps : Array Value} (h : BRel G m d base tmps) : BRel G' m d base tmps := fun t h1 h2 a ha => (h t h1 h2 a ha).mono hle
theorem LocRel.mono {G G' : Gh} (hle : G.le G') {loc : List (Nat × AV)} {tmps : Array Value} (h : LocRel G loc tmps) : LocRel G' loc tmps := fun t a ha => (h t a ha).mono hle
theorem ERel.mono {G G' : Gh} (hle : G.le G') {m d : Nat} {en : XEnv} {tmps : Array Value} (h : ERel G m d en tmps) : ERel G' m d en tmps := ⟨h.1.mono hle, h.2.mono hle⟩
theorem EntRel.mono {G G' : Gh} (hle : G.le G') {a : XEnt} {b : MapEntry} (h : EntRel G a b) : EntRel G' a b := ⟨h.1.mono hle, h.2.1.mono hle, h.2.2⟩
theorem LpRel.mono {C : Cx} {G G' : Gh} (hle : G.le G') {l : XLoop} {l' : Loop} (h : LpRel C G l l') : LpRel C G' l l' := by
  obtain ⟨h1, h2, h3, h4, h5, h6, ⟨x, hx, hb⟩, h8, h9, h10⟩ := h
  exact ⟨h1, h2, h3, h4, h5, h6, ⟨x, hle _ _ hx, hb⟩, h8, h9.mono hle, h10⟩
theorem ORel.keep {C : Cx} {G G' : Gh} {w w' : World} {x : Blk} {o : XObj} (h : ORel C G w x o) (hle : G.le G') (hk : w'.heap[x.b]? = w.heap[x.b]?) : ORel C G' w' x o := by
  cases o with
  | arr e ex k d n cs ro =>
    obtain ⟨h1, h2, h3, c, el, fr, h4, h5, h6, h7, h8, h9⟩ := h
    exact ⟨h1, h2, h3, c, el, fr, hk.trans h4, h5, h6, h7, h8, fun j hj => by obtain ⟨a, q1, q2, q3⟩ := h9 j hj; exact ⟨a, q1, q2, q3.mono hle⟩⟩
  | map es ck =>
    obtain ⟨en, h1, h2⟩ := h
    exact ⟨en, hk.trans h1, h2.imp fun _ _ => EntRel.mono hle⟩
  | siter s pos => obtain ⟨s', h1, h2⟩ := h; exact ⟨s', hk.trans h1, h2⟩
  | miter m since seen last =>
    obtain ⟨m', h1, h2, h3⟩ := h
    refine ⟨m', hk.trans h1, ?_, h3⟩
    cases m with
    | none => exact h2
    | some id => obtain ⟨y, hy, e⟩ := h2; exact ⟨y, hle _ _ hy, e⟩
  | loop l => obtain ⟨l', h1, h2⟩ := h; exact ⟨l', hk.trans h1, h2.mono hle⟩
  | deferred ds =>
    obtain ⟨ds', h1, h2⟩ := h
    refine ⟨ds', hk.trans h1, ?_⟩
    cases ds with
    | none => exact h2
    | some l => obtain ⟨l', e, hl⟩ := h2; exact ⟨l', e, DefsRel.mono hle hl⟩

/-! ### Memory -/
def XObj.fixed : XObj → Bool
  | .arr _ _ _ _ _ _ ro => ro
  | _ => false
/-- What memory says of the world; B: the blocks below it are not ours. -/
structure HR (C : Cx) (B : Nat) (G : Gh) (H : Hp) (w : World) : Prop where
  bs : B ≤ w.heap.size
  top : H.nx ≤ 2 ^ dH
  dom : ∀ id, H.nx ≤ id → G id = none
  lt : ∀ id x, G id = some x → x.b < w.heap.size
  ob : ∀ id o x, id < H.nx → H.get id = some o → G id = some x → ORel C G w x o
  inj : ∀ id id' o o' x x', id < H.nx → id' < H.nx → H.get id = some o → H.get id' = some o' → G id = some x → G id' = some x' → x.b = x'.b → id ≠ id' → o.fixed = true ∧ o'.fixed = true
  own : ∀ id o x, id < H.nx → H.get id = some o → G id = some x → o.fixed = false → B ≤ x.b
  src : ∀ id x, G id = some x → B ≤ x.b ∨ C.S x.b
  gl : ∀ g, g < 2 → ∃ x, G g = some x ∧ x.b = g ∧ x.base = 0
/-- What a run leaves as it was. -/
structure WK (B : Nat) (w w' : World) : Prop where
  os : w'.os = w.os
  tape : w'.tape = w.tape
  output : w'.output = w.output
  size : w.heap.size ≤ w'.heap.size
  keep : ∀ b, b < B → w'.heap[b]? = w.heap[b]?
theorem WK.refl (B : Nat) (w : World) : WK B w w := ⟨rfl, rfl, rfl, Nat.le_refl _, fun _ _ => rfl⟩
theorem WK.trans {B : Nat} {a b c : World} (h : WK B a b) (k : WK B b c) : WK B a c :=
  ⟨k.os.trans h.os, k.tape.trans h.tape, k.output.trans h.output, Nat.le_trans h.size k.size, fun b hb => (k.keep b hb).trans (h.keep b hb)⟩
end Go.X

/- The interpreter is right, part 3: memory made, written, given up. -/
namespace Go.X
open Go

noncomputable def Hp.upd (H : Hp) (id : Nat) (o : XObj) : Hp := ⟨Tr.put o (path dH id) H.h, H.nx⟩
noncomputable def Hp.add (H : Hp) (o : XObj) : Hp := ⟨Tr.put o (path dH H.nx) H.h, H.nx + 1⟩
noncomputable def Hp.rem (H : Hp) (id : Nat) : Hp := ⟨Tr.del (path dH id) H.h, H.nx⟩
@[simp] theorem Hp.setK_eq {R : Type} (H : Hp) (id : Nat) (o : XObj) (k : Hp → R) : H.setK id o k = k (H.upd id o) := by
  obtain ⟨h, nx⟩ := H; show Tr.putK o (path dH id) h (fun h => k ⟨h, nx⟩) = _; simp [Hp.upd]
@[simp] theorem Hp.delK_eq {R : Type} (H : Hp) (id : Nat) (k : Hp → R) : H.delK id k = k (H.rem id) := by
  obtain ⟨h, nx⟩ := H; show Tr.delK (path dH id) h (fun h => k ⟨h, nx⟩) = _; simp [Hp.rem]
theorem Hp.get_eq (H : Hp) (id : Nat) : H.get id = Tr.get (path dH id) H.h := by obtain ⟨h, nx⟩ := H; rfl
theorem Hp.new_inv {R : Type} {H : Hp} {o : XObj} {k : Nat → Hp → E R} {r : R} (h : H.new o k = .ok r) : H.nx < 2 ^ dH ∧ k H.nx (H.add o) = .ok r := by
  obtain ⟨t, nx⟩ := H
  obtain ⟨h1, h2⟩ := E.whn_inv (show E.whn (Nat.blt nx (Nat.pow 2 dH)) 1 (force nx fun nx => Tr.putK o (path dH nx) t fun h => force (Nat.succ nx) fun nx1 => k nx ⟨h, nx1⟩) = .ok r from h)
  rw [nblt_eq, decide_eq_true_iff] at h1
  simp only [force_eq, Tr.putK_eq] at h2
  exact ⟨h1, h2⟩
theorem Hp.get_upd {H : Hp} {id j : Nat} (o : XObj) (hi : id < 2 ^ dH) (hj : j < 2 ^ dH) : (H.upd id o).get j = if id = j then some o else H.get j := by
  rw [Hp.get_eq, Hp.get_eq]; exact get_put_path _ _ hi hj
theorem Hp.get_add {H : Hp} {j : Nat} (o : XObj) (hi : H.nx < 2 ^ dH) (hj : j < 2 ^ dH) : (H.add o).get j = if H.nx = j then some o else H.get j := by
  rw [Hp.get_eq, Hp.get_eq]; exact get_put_path _ _ hi hj
theorem Hp.get_rem {H : Hp} {id j : Nat} (hi : id < 2 ^ dH) (hj : j < 2 ^ dH) : (H.rem id).get j = if id = j then none else H.get j := by
  rw [Hp.get_eq, Hp.get_eq]; exact get_del_path _ hi hj

def Gh.add (G : Gh) (id : Nat) (x : Blk) : Gh := fun j => if j = id then some x else G j
@[simp] theorem Gh.add_same (G : Gh) (id : Nat) (x : Blk) : G.add id x id = some x := by simp [Gh.add]
theorem Gh.add_other (G : Gh) {id j : Nat} (x : Blk) (h : j ≠ id) : G.add id x j = G j := by simp [Gh.add, h]
theorem Gh.le_add {G : Gh} {id : Nat} (x : Blk) (h : G id = none) : G.le (G.add id x) := by
  intro j y hj
  by_cases e : j = id
  · subst e; rw [h] at hj; simp at hj
  · rw [Gh.add_other _ _ e]; exact hj

section
variable {C : Cx} {B : Nat} {G : Gh} {H : Hp} {w : World}

theorem HR.fresh (h : HR C B G H w) : G H.nx = none := h.dom _ (Nat.le_refl _)
theorem HR.id_lt (h : HR C B G H w) {id : Nat} {x : Blk} (hx : G id = some x) : id < H.nx := by
  rcases Nat.lt_or_ge id H.nx with q | q
  · exact q
  · rw [h.dom id q] at hx; simp at hx
theorem HR.id_lt' (h : HR C B G H w) {id : Nat} {x : Blk} (hx : G id = some x) : id < 2 ^ dH := Nat.lt_of_lt_of_le (h.id_lt hx) h.top

/-- The world but for what the tape has answered. -/
theorem HR.world (h : HR C B G H w) {w' : World} (hh : w'.heap = w.heap) : HR C B G H w' where
  bs := by rw [hh]; exact h.bs
  top := h.top
  dom := h.dom
  lt id x hx := by rw [hh]; exact h.lt id x hx
  ob id o x h1 h2 h3 := (h.ob id o x h1 h2 h3).keep G.le_refl (by rw [hh])
  inj := h.inj
  own := h.own
  src := h.src
  gl := h.gl

/-- A new object, not yet of the world. -/
theorem HR.unborn (h : HR C B G H w) (ht : H.nx < 2 ^ dH) (o : XObj) : HR C B G (H.add o) w where
  bs := h.bs
  top := ht
  dom id hid := h.dom id (Nat.le_trans (Nat.le_succ _) hid)
  lt := h.lt
  ob id p x h1 h2 h3 := by
    have hlt := h.id_lt h3
    rw [Hp.get_add _ ht (Nat.lt_of_lt_of_le hlt h.top), if_neg (by omega)] at h2
    exact h.ob id p x hlt h2 h3
  inj id id' p p' x x' h1 h1' h2 h2' h3 h3' := by
    have hlt := h.id_lt h3
    have hlt' := h.id_lt h3'
    rw [Hp.get_add _ ht (Nat.lt_of_lt_of_le hlt h.top), if_neg (by omega)] at h2
    rw [Hp.get_add _ ht (Nat.lt_of_lt_of_le hlt' h.top), if_neg (by omega)] at h2'
    exact h.inj id id' p p' x x' hlt hlt' h2 h2' h3 h3'
  own id p x h1 h2 h3 := by
    have hlt := h.id_lt h3
    rw [Hp.get_add _ ht (Nat.lt_of_lt_of_le hlt h.top), if_neg (by omega)] at h2
    exact h.own id p x hlt h2 h3
  src := h.src
  gl := h.gl

/-- An object is given up. -/
theorem HR.drop (h : HR C B G H w) {H' : Hp} (hn : H'.nx = H.nx) (hs : ∀ id o, id < H.nx → H'.get id = some o → H.get id = some o) : HR C B G H' w where
  bs := h.bs
  top := hn ▸ h.top
  dom id hid := h.dom id (hn ▸ hid)
  lt := h.lt
  ob id o x h1 h2 h3 := h.ob id o x (hn ▸ h1) (hs id o (hn ▸ h1) h2) h3
  inj id id' o o' x x' h1 h1' h2 h2' h3 h3' := h.inj id id' o o' x x' (hn ▸ h1) (hn ▸ h1') (hs id o (hn ▸ h1) h2) (hs id' o' (hn ▸ h1') h2') h3 h3'
  own id o x h1 h2 h3 := h.own id o x (hn ▸ h1) (hs id o (hn ▸ h1) h2) h3
  src := h.src
  gl := h.gl
theorem HR.rem (h : HR C B G H w) {id : Nat} (hid : id < 2 ^ dH) : HR C B G (H.rem id) w :=
  h.drop rfl fun j o hj hg => by
    rw [Hp.get_rem hid (Nat.lt_of_lt_of_le hj h.top)] at hg
    split at hg
    · simp at hg
    · exact hg

/-- An object comes into the world: in a new block, or in one that no object holds. -/
theorem HR.bear (h : HR C B G H w) {id : Nat} (hid : id < H.nx) (hG : G id = none) {w' : World} {x : Blk} {o : XObj} (hg : H.get id = some o) (hsz : w.heap.size ≤ w'.heap.size) (hx : x.b < w'.heap.size)
    (hkeep : ∀ b, b < w.heap.size → b ≠ x.b → w'.heap[b]? = w.heap[b]?) (hB : B ≤ x.b) (hfree : ∀ j p y, j < H.nx → H.get j = some p → G j = some y → y.b ≠ x.b)
    (ho : ORel C (G.add id x) w' x o) : HR C B (G.add id x) H w' := by
  have hle : G.le (G.add id x) := Gh.le_add x hG
  refine ⟨Nat.le_trans h.bs hsz, h.top, fun j hj => ?_, fun j y hy => ?_, fun j p y h1 h2 h3 => ?_, fun j j' p p' y y' h1 h1' h2 h2' h3 h3' e hne => ?_, fun j p y h1 h2 h3 hf => ?_, fun j y hy => ?_, fun g hgl => ?_⟩
  · rw [Gh.add_other _ _ (by omega)]; exact h.dom j hj
  · by_cases e : j = id
    · subst e; rw [Gh.add_same] at hy; cases hy; exact hx
    · rw [Gh.add_other _ _ e] at hy; exact Nat.lt_of_lt_of_le (h.lt j y hy) hsz
  · by_cases e : j = id
    · subst e; rw [Gh.add_same] at h3; cases h3; rw [hg] at h2; cases h2; exact ho
    · rw [Gh.add_other _ _ e] at h3
      exact (h.ob j p y h1 h2 h3).keep hle (hkeep _ (h.lt j y h3) (hfree j p y h1 h2 h3))
  · by_cases e1 : j = id
    · subst e1
      rw [Gh.add_same] at h3; cases h3
      rw [Gh.add_other _ _ (Ne.symm hne)] at h3'
      exact absurd e.symm (hfree j' p' y' h1' h2' h3')
    · rw [Gh.add_other _ _ e1] at h3
      by_cases e2 : j' = id
      · subst e2
        rw [Gh.add_same] at h3'; cases h3'
        exact absurd e (hfree j p y h1 h2 h3)
      · rw [Gh.add_other _ _ e2] at h3'
        exact h.inj j j' p p' y y' h1 h1' h2 h2' h3 h3' e hne
  · by_cases e : j = id
    · subst e; rw [Gh.add_same] at h3; cases h3; exact hB
    · rw [Gh.add_other _ _ e] at h3; exact h.own j p y h1 h2 h3 hf
  · by_cases e : j = id
    · subst e; rw [Gh.add_same] at hy; cases hy; exact .inl hB
    · rw [Gh.add_other _ _ e] at hy; exact h.src j y hy
  · obtain ⟨y, hy, q⟩ := h.gl g hgl
    exact ⟨y, hle _ _ hy, q⟩

theorem heap_push_other {w : World} {o : Obj} {b : Nat} (hb : b < w.heap.size) : (w.alloc o).heap[b]? = w.heap[b]? := by
  show (w.heap.push o)[b]? = _
  rw [Array.getElem?_push, if_neg (Nat.ne_of_lt hb)]
theorem heap_push_new {w : World} {o : Obj} : (w.alloc o).heap[w.heap.size]? = some o := by
  show (w.heap.push o)[w.heap.size]? = _
  rw [Array.getElem?_push, if_pos rfl]
theorem heap_push_size {w : World} {o : Obj} : (w.alloc o).heap.size = w.heap.size + 1 := by
  show (w.heap.push o).size = _
  rw [Array.size_push]
theorem WK.alloc (w : World) (o : Obj) (hB : B ≤ w.heap.size) : WK B w (w.alloc o) :=
  ⟨rfl, rfl, rfl, by rw [heap_push_size]; omega, fun b hb => heap_push_other (Nat.lt_of_lt_of_le hb hB)⟩

/-- A new object in a new block. -/
theorem HR.alloc (h : HR C B G H w) (ht : H.nx < 2 ^ dH) {o : XObj} {ob : Obj} {x : Blk} (hx : x.b = w.heap.size) (ho : ORel C (G.add H.nx x) (w.alloc ob) x o) :
    HR C B (G.add H.nx x) (H.add o) (w.alloc ob) ∧ G.le (G.add H.nx x) ∧ WK B w (w.alloc ob) := by
  have h1 := h.unborn ht o
  refine ⟨h1.bear (by show H.nx < H.nx + 1; omega) h.fresh (by rw [Hp.get_add _ ht ht, if_pos rfl]) (by rw [heap_push_size]; omega) (by rw [hx, heap_push_size]; omega) (fun b hb _ => heap_push_other hb) (by rw [hx]; exact h.bs)
    (fun j p y q1 q2 q3 e => ?_) ho, Gh.le_add x h.fresh, WK.alloc w ob h.bs⟩
  have := h.lt j y q3
  omega

/-- An object is written. -/
theorem HR.write (h : HR C B G H w) {id : Nat} {o o' : XObj} {x : Blk} (hg : H.get id = some o) (hx : G id = some x) (hf : o.fixed = false) {w' : World} (hsz : w'.heap.size = w.heap.size)
    (hkeep : ∀ b, b ≠ x.b → w'.heap[b]? = w.heap[b]?) (ho : ORel C G w' x o') : HR C B G (H.upd id o') w' ∧ (w'.os = w.os → w'.tape = w.tape → w'.output = w.output → WK B w w') := by
  have hid := h.id_lt hx
  have hid' := h.id_lt' hx
  have get : ∀ j, j < H.nx → (H.upd id o').get j = if id = j then some o' else H.get j := fun j hj => Hp.get_upd _ hid' (Nat.lt_of_lt_of_le hj h.top)
  refine ⟨⟨by rw [hsz]; exact h.bs, h.top, h.dom, fun j y hy => by rw [hsz]; exact h.lt j y hy, fun j p y h1 h2 h3 => ?_, fun j j' p p' y y' h1 h1' h2 h2' h3 h3' e hne => ?_, fun j p y h1 h2 h3 hp => ?_, h.src, h.gl⟩, fun a b c => ?_⟩
  · rw [get j h1] at h2
    by_cases e : id = j
    · subst e; rw [if_pos rfl] at h2; cases h2; rw [hx] at h3; cases h3; exact ho
    · rw [if_neg e] at h2
      refine (h.ob j p y h1 h2 h3).keep G.le_refl (hkeep _ fun q => ?_)
      have := (h.inj id j o p x y hid h1 hg h2 hx h3 q.symm e).1
      rw [hf] at this; simp at this
  · rw [get j h1] at h2; rw [get j' h1'] at h2'
    by_cases e1 : id = j
    · subst e1
      rw [if_neg hne] at h2'
      have := (h.inj id j' o p' x y' hid h1' hg h2' hx h3' (by rw [hx] at h3; cases h3; exact e) hne).1
      rw [hf] at this; simp at this
    · rw [if_neg e1] at h2
      by_cases e2 : id = j'
      · subst e2
        have := (h.inj j id p o y x h1 hid h2 hg h3 hx (by rw [hx] at h3'; cases h3'; exact e) hne).2
        rw [hf] at this; simp at this
      · rw [if_neg e2] at h2'
        exact h.inj j j' p p' y y' h1 h1' h2 h2' h3 h3' e hne
  · rw [get j h1] at h2
    by_cases e : id = j
    · subst e; rw [hx] at h3; cases h3; exact h.own id o x hid hg hx hf
    · rw [if_neg e] at h2; exact h.own j p y h1 h2 h3 hp
  · refine ⟨a, b, c, by rw [hsz]; exact Nat.le_refl _, fun b hb => hkeep b ?_⟩
    have := h.own id o x hid hg hx hf
    omega
end
end Go.X

/- The interpreter is right, part 4: reading memory; parts; what is built. -/
namespace Go.X
open Go
section
variable {C : Cx} {B : Nat} {G : Gh} {H : Hp} {w : World} {P : Program}

theorem isAg_run {t : TypeId} {b : Bool} (h : isAg P t = some b) (w : World) : (Go.isAgg t).run P w = .ok b w := by
  unfold isAg at h
  cases hu : P.underlying t with
  | none => rw [hu] at h; simp at h
  | some d =>
    rw [hu] at h
    simp only [Go.isAgg, Sem.run_bind, run_underlying hu, Result.andThen]
    cases d <;> simp_all
theorem underlying_info {t : TypeId} {d : TypeDesc} (h : P.underlying t = some d) : ∃ i, P.info? t = some i := by
  unfold Program.underlying at h
  cases hi : P.info? t with
  | some i => exact ⟨i, rfl⟩
  | none => rw [hi] at h; simp at h
theorem isAg_info {t : TypeId} {b : Bool} (h : isAg P t = some b) : ∃ i, P.info? t = some i := by
  unfold isAg at h
  cases hu : P.underlying t with
  | none => rw [hu] at h; simp at h
  | some d => exact underlying_info hu
theorem sz_run {t : TypeId} {i : TypeInfo} (h : P.info? t = some i) (w : World) : (sizeOf t).run P w = .ok (szOf P t) w := by
  simp [sizeOf, typeInfo, szOf, h]
theorem und_inv {t : TypeId} {d : TypeDesc} (h : und P t = .ok d) : P.underlying t = some d := E.of_inv h

theorem arr_inv {id : Nat} {a : Arr} (h : H.arr id = .ok a) : H.get id = some (.arr a.e a.ex a.k a.d a.n a.cs a.ro) := by
  unfold Hp.arr at h
  split at h
  · next e ex k d n cs ro hg => cases h; exact hg
  · exact nomatch h
theorem getCs_inv {d : Nat} {cs : Tr AV} : ∀ {n off : Nat} {l : List AV}, getCs d cs n off = .ok l → l.length = n ∧ ∀ j (h : j < l.length), Tr.get (path d (off + j)) cs = some l[j]
  | 0, off, l, h => by cases h; exact ⟨rfl, fun j hj => absurd hj (by simp)⟩
  | n + 1, off, l, h => by
    obtain ⟨v, h1, h2⟩ := E.b_inv (show (E.of 4 (Tr.get (path d off) cs)).b (fun v => force (Nat.succ off) fun o => (getCs d cs n o).b fun l => .ok (v :: l)) = .ok l from h)
    rw [force_eq] at h2
    obtain ⟨r, h3, h4⟩ := E.b_inv h2
    cases h4
    obtain ⟨i1, i2⟩ := getCs_inv h3
    refine ⟨by simp [i1], fun j hj => ?_⟩
    cases j with
    | zero => exact E.of_inv h1
    | succ j =>
      have := i2 j (by simpa using hj)
      have e : off + (j + 1) = off.succ + j := by omega
      rw [e]; simpa using this
theorem sub_inv {a : Arr} {off n : Nat} {l : List AV} (h : a.sub off n = .ok l) : off + n ≤ a.n ∧ l.length = n ∧ ∀ j (h : j < l.length), Tr.get (path a.d (off + j)) a.cs = some l[j] := by
  obtain ⟨e, ex, k, d, m, cs, ro⟩ := a
  obtain ⟨h1, h2⟩ := E.whn_inv (show E.whn (Nat.ble (off + n) m) 3 (force off fun off => getCs d cs n off) = .ok l from h)
  rw [nble_eq, decide_eq_true_iff] at h1
  rw [force_eq] at h2
  obtain ⟨i1, i2⟩ := getCs_inv h2
  exact ⟨h1, i1, i2⟩

/-- Cells that are read. -/
theorem cells_read (hr : HR C B G H w) {id off n : Nat} {x : Blk} (hx : G id = some x) {a : Arr} (ha : H.arr id = .ok a) {l : List AV} (hs : a.sub off n = .ok l) :
    ∃ c el fr, w.heap[x.b]? = some (.cells c el fr) ∧ (∀ j, j < n → x.base + off + j < c.size) ∧ (∀ y ∈ l, y.one = true) ∧ l.length = n ∧ ∀ j (h : j < l.length), VRel G l[j] (c.getD (x.base + off + j) undef) := by
  obtain ⟨h1, h2, h3, c, el, fr, h4, h5, h6, h7, h8, h9⟩ := hr.ob id _ x (hr.id_lt hx) (arr_inv ha) hx
  obtain ⟨q1, q2, q3⟩ := sub_inv hs
  refine ⟨c, el, fr, h4, fun j hj => by omega, fun y hy => ?_, q2, fun j hj => ?_⟩
  · obtain ⟨j, hj, rfl⟩ := List.mem_iff_getElem.1 hy
    obtain ⟨b, b1, b2, b3⟩ := h9 (off + j) (by omega)
    rw [q3 j hj] at b1; cases b1; exact b2
  · obtain ⟨b, b1, b2, b3⟩ := h9 (off + j) (by omega)
    rw [q3 j hj] at b1; cases b1
    rw [Nat.add_assoc]; exact b3

theorem add_none (b o n : Nat) : (⟨b, o, none⟩ : Addr).add n = ⟨b, o + n, none⟩ := by
  unfold Addr.add; split <;> simp_all
theorem cell_at {b : Nat} {c : Array Value} {e : TypeId} {fr : Nat × Nat} (h : w.heap[b]? = some (.cells c e fr)) {o : Nat} (ho : o < c.size) : w.cell? ⟨b, o, none⟩ = some (c.getD o undef) := by
  simp [World.cell?, h, ho, Array.getD_eq_getD_getElem?]

theorem mk_inv {t : TypeId} {cs : List AV} {v : AV} (h : mk P t cs = .ok v) : (isAg P t = some true ∧ v = .agg cs) ∨ (isAg P t = some false ∧ cs = [v]) := by
  unfold mk at h
  split at h
  · next e => cases h; exact .inl ⟨e, rfl⟩
  · next e =>
    split at h
    · cases h; exact .inr ⟨e, rfl⟩
    · exact nomatch h
  · exact nomatch h

theorem load_sound (hr : HR C B G H w) {t : TypeId} {p v : AV} {u : Value} (h : load P t H p = .ok v) (hp : VRel G p u) : ∃ r, (Instr.loadAt t u).run P w = .ok r w ∧ VRel G v r := by
  unfold load at h
  split at h
  · next id off =>
    cases hp with
    | @ptr _ _ x hx =>
      obtain ⟨a, ha, h⟩ := E.b_inv h
      obtain ⟨l, hl, h⟩ := E.b_inv h
      obtain ⟨c, el, fr, hh, hb, hone, hlen, hv⟩ := cells_read hr hx ha hl
      rcases mk_inv h with ⟨hag, rfl⟩ | ⟨hag, rfl⟩
      · obtain ⟨i, hi⟩ := isAg_info hag
        refine ⟨.agg ((List.range (szOf P t)).map fun j => c.getD (x.base + off + j) undef).toArray, ?_, .ofAgg ?_⟩
        · simp only [Instr.loadAt, Instr.sureAddr, Sem.run_bind, Sem.run_pure, Result.andThen, loadVar, isAg_run hag, if_true, sz_run hi]
          rw [run_loadCells w ⟨x.b, x.base + off, none⟩ (szOf P t) (fun j => c.getD (x.base + off + j) undef) (fun j hj => by rw [add_none]; exact cell_at hh (hb j hj))]
        · have := VRels.of_fn (f := fun j => c.getD (x.base + off + j) undef) hv
          rw [hlen] at this; simpa using this
      · have h0 := hv 0 (by simp)
        simp only [Nat.add_zero, List.getElem_cons_zero] at h0
        refine ⟨c.getD (x.base + off) undef, ?_, h0⟩
        have hsz : szOf P t = 1 := by simpa using hlen.symm
        have := cell_at hh (hb 0 (by omega))
        simp only [Nat.add_zero] at this
        simp [Instr.loadAt, Instr.sureAddr, loadVar, isAg_run hag, this]
  · exact nomatch h

/-! ### Lists of cells -/
theorem subL_inv {l r : List AV} {off n : Nat} (h : subL l off n = .ok r) : off + n ≤ l.length ∧ r = (l.drop off).take n := by
  obtain ⟨h1, h2⟩ := E.whn_inv h
  rw [nble_eq, decide_eq_true_iff, lenN_eq] at h1
  rw [forceL_eq] at h2
  cases h2; exact ⟨h1, rfl⟩
theorem splL_inv {l v r : List AV} {off : Nat} (h : splL l off v = .ok r) : off + v.length ≤ l.length ∧ v.all AV.one = true ∧ r = l.take off ++ v ++ l.drop (off + v.length) := by
  obtain ⟨h1, h2⟩ := E.whn_inv h
  obtain ⟨h3, h4⟩ := E.whn_inv h2
  rw [nble_eq, decide_eq_true_iff, lenN_eq, lenN_eq] at h1
  rw [allOne_eq] at h3
  rw [forceL_eq, lenN_eq] at h4
  cases h4; exact ⟨h1, h3, rfl⟩
theorem VRels.spl {l v : List AV} {L V : List Value} (h : VRels G l L) (k : VRels G v V) (off : Nat) : VRels G (l.take off ++ v ++ l.drop (off + v.length)) (L.take off ++ V ++ L.drop (off + V.length)) := by
  have e : off + v.length = off + V.length := by rw [k.1]
  rw [e]
  exact ((h.take off).append k).append (h.drop _)

theorem part_sound {t : TypeId} {cs : List AV} {c : Array Value} {off : Nat} {v : AV} (hc : VRels G cs c.toList) (h : part P t cs off = .ok v) : ∃ r, (Go.part t c off).run P w = .ok r w ∧ VRel G v r := by
  obtain ⟨l, hl, h⟩ := E.b_inv h
  obtain ⟨h1, rfl⟩ := subL_inv hl
  have hsz : cs.length = c.size := by simpa using hc.1
  rcases mk_inv h with ⟨hag, rfl⟩ | ⟨hag, hv⟩
  · obtain ⟨i, hi⟩ := isAg_info hag
    refine ⟨.agg (c.extract off (off + szOf P t)), by simp [Go.part, isAg_run hag, sz_run hi], .ofAgg ?_⟩
    have := (hc.drop off).take (szOf P t)
    simpa [List.extract_eq_take_drop, Array.toList_extract] using this
  · have hg : cs[off]? = some v := by
      have : ((cs.drop off).take (szOf P t))[0]? = some v := by rw [hv]; rfl
      have h0 : 0 < szOf P t := by
        rcases Nat.eq_zero_or_pos (szOf P t) with q | q
        · rw [q] at hv; simp at hv
        · exact q
      rw [List.getElem?_take_of_lt h0, List.getElem?_drop] at this
      simpa using this
    obtain ⟨u, hu, hvu⟩ := hc.get hg
    refine ⟨u, ?_, hvu⟩
    have : c[off]? = some u := by simpa using hu
    simp [Go.part, isAg_run hag, this]

theorem ofVal1_rel (v : Value) : VRel G (ofVal1 v) v := by
  unfold ofVal1
  split
  · exact .bool _
  · exact .int _ _
  · exact .flt _ _
  · exact .cpx _ _ _
  · exact .str rfl
  · exact .nilp
  · exact .nils
  · exact .nilm
  · exact .nilf
  · exact .nili
  · exact .bad _
theorem ofVal_rel (v : Value) : VRel G (ofVal v) v := by
  cases v with
  | agg cs =>
    refine .ofAgg ?_
    have := VRels.map (G := G) (f := ofVal1) (g := fun v => v) (fun v => ofVal1_rel v) cs.toList
    simpa using this
  | tuple vs =>
    simp only [ofVal]
    split
    · next e => exact .tup (by simp [← Array.length_toList, e]) (fun i hi => absurd hi (by simp))
    · exact .bad _
  | _ => simp only [ofVal]; exact ofVal1_rel _

theorem zcells_inv {t : TypeId} {l : List AV} (h : zcells P t = .ok l) : ∃ i z, P.info? t = some i ∧ i.zero = some z ∧ VRels G l z.cells.toList ∧ l.all AV.one = true ∧ l.length = i.size ∧ z.cells.size = i.size := by
  unfold zcells at h
  split at h
  · next i hi =>
    split at h
    · next z hz =>
      obtain ⟨h1, h2⟩ := E.whn_inv h
      rw [forceL_eq] at h2
      cases h2
      rw [Bool.and_eq_true, allOne_eq, nbeq_eq, decide_eq_true_iff, lenN_eq] at h1
      have hr := (ofVal_rel (G := G) z).cellsR h1.1
      exact ⟨i, z, hi, hz, hr, h1.1, h1.2, by have := hr.1; simp at this; omega⟩
    · exact nomatch h
  · exact nomatch h
theorem zval_sound {t : TypeId} {v : AV} (h : zval P t = .ok v) : ∃ z, (zeroValue t).run P w = .ok z w ∧ VRel G v z := by
  unfold zval at h
  split at h
  · next i hi =>
    split at h
    · next z hz => cases h; exact ⟨z, by simp [zeroValue, typeInfo, hi, hz], ofVal_rel z⟩
    · exact nomatch h
  · exact nomatch h
end
end Go.X

/- The interpreter is right, part 5: numbers, texts, comparisons. -/
namespace Go.X
open Go
section
variable {C : Cx} {B : Nat} {G : Gh} {H : Hp} {w : World} {P : Program}

theorem okI_inv {k : IntKind} {n : Int} {v : AV} (h : okI k n = .ok v) : v = .int k n := by
  unfold okI at h; rw [forceI_eq] at h; cases h; rfl

theorem binI_sound {op : BinOp} {k k' : IntKind} {a b : Int} {v : AV} (hk : isShift op = true ∨ k = k') (h : binI op k a b = .ok v) (t : TypeId) :
    ∃ u, (binOp op t (.int k a) (.int k' b)).run P w = .ok u w ∧ VRel G v u := by
  cases op <;> simp only [isShift, Bool.false_eq_true, false_or, true_or] at hk <;> (try subst hk) <;> simp only [binI, okBool_eq] at h
  case quo =>
    cases hb : eqI b 0 with
    | true => rw [hb] at h; exact nomatch h
    | false =>
      rw [hb] at h
      rw [eqI_eq, decide_eq_false_iff_not] at hb
      have := okI_inv h; subst this
      exact ⟨_, by simp [binOp, Op.intDiv, hb], .int _ _⟩
  case rem =>
    cases hb : eqI b 0 with
    | true => rw [hb] at h; exact nomatch h
    | false =>
      rw [hb] at h
      rw [eqI_eq, decide_eq_false_iff_not] at hb
      have := okI_inv h; subst this
      exact ⟨_, by simp [binOp, Op.intDiv, hb], .int _ _⟩
  case shl =>
    cases hb : ltI b 0 with
    | true => rw [hb] at h; exact nomatch h
    | false =>
      rw [hb] at h
      rw [ltI_eq, decide_eq_false_iff_not] at hb
      have := okI_inv h; subst this
      exact ⟨_, by simp [binOp, Op.shift, hb], .int _ _⟩
  case shr =>
    cases hb : ltI b 0 with
    | true => rw [hb] at h; exact nomatch h
    | false =>
      rw [hb] at h
      rw [ltI_eq, decide_eq_false_iff_not] at hb
      have := okI_inv h; subst this
      exact ⟨_, by simp [binOp, Op.shift, hb], .int _ _⟩
  case add => have := okI_inv h; subst this; rw [wrapF_eq]; exact ⟨_, by simp [binOp, Op.intArith], .int _ _⟩
  case sub => have := okI_inv h; subst this; rw [wrapF_eq]; exact ⟨_, by simp [binOp, Op.intArith], .int _ _⟩
  case mul => have := okI_inv h; subst this; rw [wrapF_eq]; exact ⟨_, by simp [binOp, Op.intArith], .int _ _⟩
  case and => have := okI_inv h; subst this; exact ⟨_, by simp [binOp, Op.intBits], .int _ _⟩
  case or => have := okI_inv h; subst this; exact ⟨_, by simp [binOp, Op.intBits], .int _ _⟩
  case xor => have := okI_inv h; subst this; exact ⟨_, by simp [binOp, Op.intBits], .int _ _⟩
  case andNot => have := okI_inv h; subst this; exact ⟨_, by simp [binOp, Op.intBits], .int _ _⟩
  case eql => cases h; rw [eqI_eq]; exact ⟨_, by simp [binOp, Op.intCmp]; rfl, .bool _⟩
  case neq =>
    cases h; rw [eqI_eq]
    have e : (!decide (a = b)) = (a != b) := by simp [bne, BEq.beq]
    rw [e]; exact ⟨_, by simp [binOp, Op.intCmp], .bool _⟩
  case lss => cases h; rw [ltI_eq]; exact ⟨_, by simp [binOp, Op.intCmp], .bool _⟩
  case leq =>
    cases h; rw [ltI_eq]
    have e : (!decide (b < a)) = decide (a ≤ b) := by rw [Bool.eq_iff_iff]; simp
    rw [e]; exact ⟨_, by simp [binOp, Op.intCmp], .bool _⟩
  case gtr => cases h; rw [ltI_eq]; exact ⟨_, by simp [binOp, Op.intCmp], .bool _⟩
  case geq =>
    cases h; rw [ltI_eq]
    have e : (!decide (a < b)) = decide (a ≥ b) := by rw [Bool.eq_iff_iff]; simp
    rw [e]; exact ⟨_, by simp [binOp, Op.intCmp], .bool _⟩

/-! ### Texts -/
theorem bytesL_size (s : ByteArray) : (bytesL s).length = s.size := by simp [bytesL]
theorem bytesL_inj {s t : ByteArray} (h : bytesL s = bytesL t) : s = t := by
  have : s.data.toList = t.data.toList := by
    have key : ∀ (l m : List UInt8), l.map UInt8.toNat = m.map UInt8.toNat → l = m := by
      intro l
      induction l with
      | nil => intro m h; cases m with
        | nil => rfl
        | cons b m => simp at h
      | cons a l ih => intro m h; cases m with
        | nil => simp at h
        | cons b m =>
          simp only [List.map_cons, List.cons.injEq] at h
          rw [ih m h.2, UInt8.toNat_inj.1 h.1]
    exact key _ _ h
  have h2 : s.data = t.data := Array.toList_inj.1 this
  cases s; cases t; simpa using h2
theorem bytesL_append (s t : ByteArray) : bytesL (s ++ t) = bytesL s ++ bytesL t := by
  simp [bytesL, ByteArray.data_append]
theorem toList_bytes (s : ByteArray) : s.toList.map UInt8.toNat = bytesL s := by rw [ByteArray.toList_eq]; rfl
theorem bytesLess_nat : ∀ (x y : List UInt8), Op.bytesLess x y = lexLess (x.map UInt8.toNat) (y.map UInt8.toNat)
  | x, [] => by cases x <;> rfl
  | [], b :: y => rfl
  | a :: x, b :: y => by
    simp only [Op.bytesLess, lexLess, List.map_cons, bytesLess_nat x y]
    have e1 : Nat.blt a.toNat b.toNat = decide (a < b) := by rw [nblt_eq]; rfl
    have e2 : Nat.beq a.toNat b.toNat = (a == b) := by
      rw [nbeq_eq, Bool.eq_iff_iff, decide_eq_true_iff, beq_iff_eq, UInt8.toNat_inj]
    rw [e1, e2]
theorem eqL_bytes (s t : ByteArray) : eqL (bytesL s) (bytesL t) = (s.toList == t.toList) := by
  rw [eqL_eq, Bool.eq_iff_iff, decide_eq_true_iff, beq_iff_eq]
  constructor
  · intro h; rw [bytesL_inj h]
  · intro h; rw [← toList_bytes, ← toList_bytes, h]
theorem lex_bytes (s t : ByteArray) : lexLess (bytesL s) (bytesL t) = Op.bytesLess s.toList t.toList := by
  rw [bytesLess_nat, toList_bytes, toList_bytes]

theorem binS_sound {op : BinOp} {l m : List Nat} {s t : ByteArray} {v : AV} (hs : bytesL s = l) (ht : bytesL t = m) (h : binS op l m = .ok v) (ty : TypeId) :
    ∃ u, (binOp op ty (.string s) (.string t)).run P w = .ok u w ∧ VRel G v u := by
  subst hs; subst ht
  cases op <;> simp only [binS, okBool_eq] at h <;> (try (cases h; done))
  case add =>
    obtain ⟨h1, h2⟩ := E.whn_inv h
    rw [forceLN_eq] at h2; cases h2
    rw [nble_eq, decide_eq_true_iff, lenN_eq, lenN_eq, bytesL_size, bytesL_size] at h1
    refine ⟨.string (s ++ t), ?_, .str (bytesL_append s t)⟩
    have : ¬ (((s.size + t.size : Nat) : Int) > IntKind.i64.max) := by
      have : IntKind.i64.max = 9223372036854775807 := by decide
      rw [this]; omega
    simp only [binOp, Op.stringOp]
    rw [if_neg this]; rfl
  case eql => cases h; rw [eqL_bytes]; exact ⟨_, by simp [binOp, Op.stringOp], .bool _⟩
  case neq => cases h; rw [eqL_bytes]; exact ⟨_, by simp [binOp, Op.stringOp], .bool _⟩
  case lss => cases h; rw [lex_bytes]; exact ⟨_, by simp [binOp, Op.stringOp], .bool _⟩
  case leq => cases h; rw [lex_bytes, eqL_bytes]; exact ⟨_, by simp [binOp, Op.stringOp], .bool _⟩
  case gtr => cases h; rw [lex_bytes, eqL_bytes]; exact ⟨_, by simp [binOp, Op.stringOp], .bool _⟩
  case geq => cases h; rw [lex_bytes]; exact ⟨_, by simp [binOp, Op.stringOp], .bool _⟩

theorem binF_sound {op : BinOp} {k : FloatKind} {a b : Nat} {v : AV} (h : binF op k a b = .ok v) (ty : TypeId) :
    ∃ u, (binOp op ty (.float k a) (.float k b)).run P w = .ok u w ∧ VRel G v u := by
  cases op <;> simp only [binF, okBool_eq] at h <;> (try (cases h; done)) <;> (cases h; exact ⟨_, by simp [binOp, Op.floatCmp], .bool _⟩)

/-! ### == by the type -/
theorem eqIn_fields {d : Nat} {xs ys : Array Value} {cx cy : List AV} (hx : VRels G cx xs.toList) (hy : VRels G cy ys.toList)
    (ih : ∀ t x y r u v, eqv P d t x y = .ok r → VRel G x u → VRel G y v → ∀ e, d ≤ e → (Op.equalIn e t u v).run P w = .ok r w) {e : Nat} (he : d ≤ e) :
    ∀ (fs : List Field) (r : Bool), fs.foldr (fun f r => bif f.name != "_" then (part P f.type cx f.offset).b fun a => (part P f.type cy f.offset).b fun b => (eqv P d f.type a b).b fun c => bif c then r else .ok false else r) (.ok true) = .ok r →
      (do
        for f in fs do
          if f.name ≠ "_" then
            if !(← Op.equalIn e f.type (← Go.part f.type xs f.offset) (← Go.part f.type ys f.offset)) then return false
        pure true : Sem Bool).run P w = .ok r w
  | [], r, h => by cases h; rfl
  | f :: fs, r, h => by
    simp only [List.foldr_cons] at h
    by_cases hn : f.name = "_"
    · have e1 : (f.name != "_") = false := by simp [hn]
      rw [e1] at h
      have := eqIn_fields hx hy ih he fs r h
      simpa [List.forIn_cons, hn] using this
    · have e1 : (f.name != "_") = true := by simp [hn]
      rw [e1] at h
      obtain ⟨a, ha, h⟩ := E.b_inv h
      obtain ⟨b, hb, h⟩ := E.b_inv h
      obtain ⟨c, hc, h⟩ := E.b_inv h
      obtain ⟨u, hu, hau⟩ := part_sound (w := w) hx ha
      obtain ⟨v, hv, hbv⟩ := part_sound (w := w) hy hb
      have hq := ih _ _ _ _ _ _ hc hau hbv e he
      cases c with
      | false =>
        cases h
        simp [List.forIn_cons, hn, hu, hv, hq]
      | true =>
        have := eqIn_fields hx hy ih he fs r h
        simpa [List.forIn_cons, hn, hu, hv, hq] using this

theorem eqIn_items {d : Nat} {xs ys : Array Value} {cx cy : List AV} (hx : VRels G cx xs.toList) (hy : VRels G cy ys.toList)
    (ih : ∀ t x y r u v, eqv P d t x y = .ok r → VRel G x u → VRel G y v → ∀ e, d ≤ e → (Op.equalIn e t u v).run P w = .ok r w) {e : Nat} (he : d ≤ e) (t : TypeId) (k : Nat) :
    ∀ (is : List Nat) (r : Bool), is.foldr (fun i r => (part P t cx (i * k)).b fun a => (part P t cy (i * k)).b fun b => (eqv P d t a b).b fun c => bif c then r else .ok false) (.ok true) = .ok r →
      (Op.eqItems e t k xs ys is).run P w = .ok r w
  | [], r, h => by cases h; rfl
  | i :: is, r, h => by
    simp only [List.foldr_cons] at h
    obtain ⟨a, ha, h⟩ := E.b_inv h
    obtain ⟨b, hb, h⟩ := E.b_inv h
    obtain ⟨c, hc, h⟩ := E.b_inv h
    obtain ⟨u, hu, hau⟩ := part_sound (w := w) hx ha
    obtain ⟨v, hv, hbv⟩ := part_sound (w := w) hy hb
    have hq := ih _ _ _ _ _ _ hc hau hbv e he
    cases c with
    | false => cases h; simp [Op.eqItems, hu, hv, hq]
    | true =>
      have := eqIn_items hx hy ih he t k is r h
      simpa [Op.eqItems, hu, hv, hq] using this

theorem cellsOf_eq (t : TypeId) : P.cellsOf t = szOf P t := by
  unfold Program.cellsOf szOf
  cases P.info? t <;> rfl
theorem szOf_info {t : TypeId} (h : szOf P t ≠ 0) : ∃ i, P.info? t = some i := by
  unfold szOf at h
  cases hi : P.info? t with
  | some i => exact ⟨i, rfl⟩
  | none => rw [hi] at h; simp at h
theorem info_of {t : TypeId} (h : (P.info? t).isSome = true) : ∃ i, P.info? t = some i := Option.isSome_iff_exists.1 h

set_option maxHeartbeats 1000000 in
theorem eqv_sound : ∀ (d : Nat) (t : TypeId) (x y : AV) (r : Bool) (u v : Value), eqv P d t x y = .ok r → VRel G x u → VRel G y v → ∀ e, d ≤ e → (Op.equalIn e t u v).run P w = .ok r w
  | 0, t, x, y, r, u, v, h, _, _, _, _ => nomatch (show (E.er 17 : E Bool) = .ok r from h)
  | d + 1, t, x, y, r, u, v, h0, hx, hy, e, he => by
    obtain ⟨e, rfl⟩ : ∃ e', e = e' + 1 := ⟨e - 1, by omega⟩
    have he' : d ≤ e := by omega
    have ih := eqv_sound d
    obtain ⟨ty, hty, h⟩ := E.b_inv (show (und P t).b _ = .ok r from h0)
    clear h0
    have hu := und_inv hty
    split at h
    · cases hx; cases hy; cases h; rw [eqB_eq]; simp [Op.equalIn, run_underlying hu]
    · cases hx; cases hy
      obtain ⟨hk, h'⟩ := E.whn_inv h
      clear h
      rw [eqK_iff] at hk; subst hk; cases h'; rw [eqI_eq]
      simp [Op.equalIn, run_underlying hu, BEq.beq]
    · cases hx with | str hs => cases hy with | str ht =>
      cases h; subst hs; subst ht; rw [eqL_bytes]
      simp [Op.equalIn, run_underlying hu, beq_toListBytes]
    · cases hx; cases hy; cases h; simp [Op.equalIn, run_underlying hu]
    · cases hx; cases hy; cases h; simp [Op.equalIn, run_underlying hu]
    · cases hx; cases hy; cases h; simp [Op.equalIn, run_underlying hu]
    · next el a b c f =>
      cases hx with | @ptr _ _ xa ha => cases hy with | @ptr _ _ xc hc =>
      obtain ⟨h1, h'⟩ := E.whn_inv h
      clear h
      rw [Bool.and_eq_true, nbeq_eq, decide_eq_true_iff, nbeq_eq] at h1
      obtain ⟨rfl, h2⟩ := h1
      have hsz : szOf P el ≠ 0 := by simpa using h2
      obtain ⟨i, hi⟩ := szOf_info hsz
      have hi2 : i.size ≠ 0 := by simpa [szOf, hi] using hsz
      rw [ha] at hc; cases hc
      cases h'
      rw [nbeq_eq]
      simp [Op.equalIn, run_underlying hu, sizeOf, typeInfo, hi, hi2, sameAddr]
      rw [Bool.eq_iff_iff]; simp
    · cases hx; cases hy; cases h; simp [Op.equalIn, run_underlying hu]
    · cases hx; cases hy; cases h; simp [Op.equalIn, run_underlying hu]
    · cases hx; cases hy; cases h; simp [Op.equalIn, run_underlying hu]
    · next tx vx ty' vy =>
      cases hx with | ifc hvx => cases hy with | ifc hvy =>
      cases hb : Nat.beq tx ty' with
      | false =>
        rw [hb] at h; cases h
        rw [nbeq_eq, decide_eq_false_iff_not] at hb
        simp [Op.equalIn, run_underlying hu, hb]
      | true =>
        rw [hb] at h
        rw [nbeq_eq, decide_eq_true_iff] at hb
        subst hb
        obtain ⟨h1, h'⟩ := E.whn_inv h
        cases hi : P.info? tx with
        | none => rw [hi] at h1; simp at h1
        | some i =>
          rw [hi] at h1
          have h1' : i.comparable = true := by simpa using h1
          have := ih _ _ _ _ _ _ h' hvx hvy e he'
          simp [Op.equalIn, run_underlying hu, typeInfo, hi, h1', this]
    · next fs xs ys =>
      obtain ⟨c, rfl, hc⟩ := hx.agg_inv
      obtain ⟨c', rfl, hc'⟩ := hy.agg_inv
      obtain ⟨h1, h'⟩ := E.whn_inv h
      have h1' : P.stoodInHeld t = false := by simpa using h1
      have := eqIn_fields hc hc' (fun t x y r u v q1 q2 q3 e q4 => ih t x y r u v q1 q2 q3 e q4) he' fs.toList r h'
      simp only [Op.equalIn, Sem.run_bind, run_underlying hu, Result.andThen_ok, run_program, h1', Bool.false_eq_true, if_false]
      rw [← Array.forIn_toList]
      simpa using this
    · next len el xs ys =>
      obtain ⟨c, rfl, hc⟩ := hx.agg_inv
      obtain ⟨c', rfl, hc'⟩ := hy.agg_inv
      obtain ⟨h1, h'⟩ := E.whn_inv h
      obtain ⟨i, hi⟩ := info_of h1
      rw [run_equalIn_array w e c c' hu hi, cellsOf_eq]
      exact eqIn_items hc hc' (fun t x y r u v q1 q2 q3 e q4 => ih t x y r u v q1 q2 q3 e q4) he' el _ _ r h'
    · cases hx; cases hy; cases h; simp [Op.equalIn, run_underlying hu]
    · cases hx; cases hy; cases h; simp [Op.equalIn, run_underlying hu]
    · cases hx; cases hy; cases h; simp [Op.equalIn, run_underlying hu]
    · cases hx; cases hy; cases h; simp [Op.equalIn, run_underlying hu]
    · cases hx; cases hy; cases h; simp [Op.equalIn, run_underlying hu]
    · cases hx; cases hy; cases h; simp [Op.equalIn, run_underlying hu]
    · cases hx; cases hy; cases h; simp [Op.equalIn, run_underlying hu]
    · cases hx; cases hy; cases h; simp [Op.equalIn, run_underlying hu]
    · cases hx; cases hy; cases h; simp [Op.equalIn, run_underlying hu]
    · cases hx; cases hy; cases h; simp [Op.equalIn, run_underlying hu]
    · cases hx; cases hy; cases h; simp [Op.equalIn, run_underlying hu]
    · cases hx; cases hy
      obtain ⟨hk, h'⟩ := E.whn_inv h
      clear h
      rw [eqFK_iff] at hk; subst hk; cases h'
      simp [Op.equalIn, run_underlying hu]
    · exact nomatch h

theorem eqGuard_ok {op : BinOp} {t : TypeId} {x y : Operand} {u v : Value} (h1 : u ≠ .nilIface ∨ v ≠ .nilIface ∨ (isConst x || isConst y) = true) (h2 : (∀ c, u ≠ .agg c) ∨ P.eqGuardType P.depth t = false) :
    (eqGuard op t x y u v).run P w = .ok () w := by
  unfold eqGuard
  cases op <;> (first | rfl | skip)
  all_goals
    simp only [Bool.not_true, Bool.false_eq_true, if_false]
    split
    · have hy : (isConst x || isConst y) = true := by
        rcases h1 with h | h | h
        · exact absurd rfl h
        · exact absurd rfl h
        · exact h
      cases x <;> cases y <;> first | (simp [isConst] at hy; done) | rfl
    · rcases h2 with h | h
      · exact absurd rfl (h _)
      · simp [h]
    · rfl

/-- == of what is no number and no text. -/
theorem binOp_eq {t : TypeId} {a b : Value} (h : (∀ k m k' n, a = .int k m → b = .int k' n → False) ∧ (∀ s s', a = .string s → b = .string s' → False) ∧ (∀ k m k' n, a = .float k m → b = .float k' n → False) ∧
    (∀ k m n k' m' n', a = .complex k m n → b = .complex k' m' n' → False)) :
    (binOp .eql t a b) = (do pure (.bool (← Op.equal t a b)) : Sem Value) ∧ (binOp .neq t a b) = (do pure (.bool (!(← Op.equal t a b))) : Sem Value) := by
  obtain ⟨h1, h2, h3, h4⟩ := h
  constructor <;>
  · unfold binOp
    split <;> first | rfl | contradiction | (exfalso; first | exact h1 _ _ _ _ rfl rfl | exact h2 _ _ rfl rfl | exact h3 _ _ _ _ rfl rfl | exact h4 _ _ _ _ _ _ rfl rfl)
theorem bin_sound {op : BinOp} {t yt : TypeId} {xo yo : Operand} {x y v : AV} {a b : Value} (h : bin P op t (isConst xo || isConst yo) x y = .ok v) (hx : VRel G x a) (hy : VRel G y b) :
    ∃ u, (do eqGuard op t xo yo a b; binOp op t a b : Sem Value).run P w = .ok u w ∧ VRel G v u := by
  have fin : ∀ {a b : Value}, (eqGuard op t xo yo a b).run P w = .ok () w → (∃ u, (binOp op t a b).run P w = .ok u w ∧ VRel G v u) → ∃ u, (do eqGuard op t xo yo a b; binOp op t a b : Sem Value).run P w = .ok u w ∧ VRel G v u := by
    rintro a b h1 ⟨u, h2, h3⟩
    exact ⟨u, by simp [h1, h2], h3⟩
  unfold bin at h
  split at h
  · cases hx; cases hy
    obtain ⟨hk, h⟩ := E.whn_inv h
    rw [Bool.or_eq_true, eqK_iff] at hk
    exact fin (eqGuard_ok (.inl (by simp)) (.inl (by simp))) (binI_sound hk h t)
  · cases hx with | str hs => cases hy with | str ht =>
    exact fin (eqGuard_ok (.inl (by simp)) (.inl (by simp))) (binS_sound hs ht h t)
  · cases hx; cases hy
    obtain ⟨hk, h'⟩ := E.whn_inv h
    clear h
    rw [eqFK_iff] at hk; subst hk
    exact fin (eqGuard_ok (.inl (by simp)) (.inl (by simp))) (binF_sound h' t)
  · next hI hS hF =>
    have eqE : ∀ {r : Bool}, eqv P 100 t x y = .ok r → (Op.equal t a b).run P w = .ok r w := fun h => eqv_sound 100 t x y _ a b h hx hy 10000 (by decide)
    have ncx : ∀ {r : Bool}, eqv P 100 t x y = .ok r → ∀ k m n k' m' n', a = .complex k m n → b = .complex k' m' n' → False := by
      intro r h k m n k' m' n' e1 e2
      have := eqE h
      subst e1; subst e2
      cases hx <;> cases hy <;> (obtain ⟨u, hu, h⟩ := E.b_inv (show (und P t).b _ = .ok r from h); cases u <;> exact nomatch h)
    have key : ∀ {r : Bool}, eqv P 100 t x y = .ok r → (∀ k m k' n, a = .int k m → b = .int k' n → False) ∧ (∀ s s', a = .string s → b = .string s' → False) ∧ (∀ k m k' n, a = .float k m → b = .float k' n → False) ∧
        (∀ k m n k' m' n', a = .complex k m n → b = .complex k' m' n' → False) := by
      intro r h
      refine ⟨fun k m k' n e1 e2 => ?_, fun s s' e1 e2 => ?_, fun k m k' n e1 e2 => ?_, ncx h⟩
      · subst e1; subst e2
        cases hx with
        | int => cases hy with
          | int => exact hI _ _ _ _ rfl rfl
          | bad => obtain ⟨u, hu, h⟩ := E.b_inv (show (und P t).b _ = .ok r from h); cases u <;> exact nomatch h
        | bad => obtain ⟨u, hu, h⟩ := E.b_inv (show (und P t).b _ = .ok r from h); cases u <;> exact nomatch h
      · subst e1; subst e2
        cases hx with
        | str => cases hy with
          | str => exact hS _ _ rfl rfl
          | bad => obtain ⟨u, hu, h⟩ := E.b_inv (show (und P t).b _ = .ok r from h); cases u <;> exact nomatch h
        | bad => obtain ⟨u, hu, h⟩ := E.b_inv (show (und P t).b _ = .ok r from h); cases u <;> exact nomatch h
      · subst e1; subst e2
        cases hx with
        | flt => cases hy with
          | flt => exact hF _ _ _ _ rfl rfl
          | bad => obtain ⟨u, hu, h⟩ := E.b_inv (show (und P t).b _ = .ok r from h); cases u <;> exact nomatch h
        | bad => obtain ⟨u, hu, h⟩ := E.b_inv (show (und P t).b _ = .ok r from h); cases u <;> exact nomatch h
    have yesE : ∀ {r : Bool}, eqv P 100 t x y = .ok r → (binOp .eql t a b).run P w = .ok (.bool r) w := by
      intro r h; rw [(binOp_eq (key h)).1]; simp [eqE h]
    have yesN : ∀ {r : Bool}, eqv P 100 t x y = .ok r → (binOp .neq t a b).run P w = .ok (.bool !r) w := by
      intro r h; rw [(binOp_eq (key h)).2]; simp [eqE h]
    have nag : ∀ {c : Array Value}, (∀ xs ys, x = .agg xs → y = .agg ys → False) → ∀ {r : Bool}, eqv P 100 t x y = .ok r → a ≠ .agg c := by
      intro c hn r h e
      subst e
      cases hx with
      | agg => cases hy with
        | agg => exact hn _ _ rfl rfl
        | _ => obtain ⟨u, hu, h⟩ := E.b_inv (show (und P t).b _ = .ok r from h); cases u <;> exact nomatch h
      | bad => obtain ⟨u, hu, h⟩ := E.b_inv (show (und P t).b _ = .ok r from h); cases u <;> exact nomatch h
    have nni : (x = .nili → y = .nili → False) → ∀ {r : Bool}, eqv P 100 t x y = .ok r → a ≠ .nilIface ∨ b ≠ .nilIface ∨ (isConst xo || isConst yo) = true := by
      intro hn r h
      cases hx with
      | nili => cases hy with
        | nili => exact (hn rfl rfl).elim
        | bad => obtain ⟨u, hu, h⟩ := E.b_inv (show (und P t).b _ = .ok r from h); cases u <;> exact nomatch h
        | _ => exact .inr (.inl (by simp))
      | bad => obtain ⟨u, hu, h⟩ := E.b_inv (show (und P t).b _ = .ok r from h); cases u <;> exact nomatch h
      | _ => exact .inl (by simp)
    unfold binO at h
    split at h
    · obtain ⟨hk, h'⟩ := E.whn_inv h
      obtain ⟨r, h1, h2⟩ := E.b_inv h'
      rw [okBool_eq] at h2; cases h2
      cases hx
      exact fin (eqGuard_ok (.inr (.inr hk)) (.inl (by simp))) ⟨_, yesE h1, .bool _⟩
    · obtain ⟨hk, h'⟩ := E.whn_inv h
      obtain ⟨r, h1, h2⟩ := E.b_inv h'
      rw [okBool_eq] at h2; cases h2
      cases hx
      exact fin (eqGuard_ok (.inr (.inr hk)) (.inl (by simp))) ⟨_, yesN h1, .bool _⟩
    · obtain ⟨hk, h'⟩ := E.whn_inv h
      obtain ⟨r, h1, h2⟩ := E.b_inv h'
      rw [okBool_eq] at h2; cases h2
      exact fin (eqGuard_ok (.inl (by cases hx; simp)) (.inr (by simpa using hk))) ⟨_, yesE h1, .bool _⟩
    · obtain ⟨hk, h'⟩ := E.whn_inv h
      obtain ⟨r, h1, h2⟩ := E.b_inv h'
      rw [okBool_eq] at h2; cases h2
      exact fin (eqGuard_ok (.inl (by cases hx; simp)) (.inr (by simpa using hk))) ⟨_, yesN h1, .bool _⟩
    · next h3 h4 =>
      obtain ⟨r, h1, h2⟩ := E.b_inv h
      rw [okBool_eq] at h2; cases h2
      exact fin (eqGuard_ok (nni (fun e1 e2 => h3 e1 e2) h1) (.inl fun c => nag (fun xs ys e1 e2 => h4 xs ys e1 e2) h1)) ⟨_, yesE h1, .bool _⟩
    · next h3 h4 =>
      obtain ⟨r, h1, h2⟩ := E.b_inv h
      rw [okBool_eq] at h2; cases h2
      exact fin (eqGuard_ok (nni (fun e1 e2 => h3 e1 e2) h1) (.inl fun c => nag (fun xs ys e1 e2 => h4 xs ys e1 e2) h1)) ⟨_, yesN h1, .bool _⟩
    · exact nomatch h
end
end Go.X

/- The interpreter is right, part 6: what is read of memory, and what is made of values. -/
namespace Go.X
open Go
section
variable {C : Cx} {B : Nat} {G : Gh} {H : Hp} {w : World} {P : Program}

theorem asNat_inv {v : AV} {n : Nat} {u : Value} (h : asNat v = .ok n) (hv : VRel G v u) : ∃ k, u = .int k (Int.ofNat n) := by
  unfold asNat at h
  split at h
  · next k m => cases h; cases hv; exact ⟨k, rfl⟩
  · exact nomatch h
theorem asInt_inv {v : AV} {n : Int} {u : Value} (h : asInt v = .ok n) (hv : VRel G v u) : ∃ k, u = .int k n := by
  unfold asInt at h
  split at h
  · next k m => cases h; cases hv; exact ⟨k, rfl⟩
  · exact nomatch h

theorem idxAddr_sound {t : TypeId} {x i v : AV} {a b : Value} (h : idxAddr P t x i = .ok v) (hx : VRel G x a) (hi : VRel G i b) : ∃ u, (Instr.indexAt t a b).run P w = .ok u w ∧ VRel G v u := by
  obtain ⟨n, hn, h'⟩ := E.b_inv h
  clear h; have h := h'; clear h'
  obtain ⟨k, rfl⟩ := asNat_inv hn hi
  obtain ⟨d, hd, h'⟩ := E.b_inv h
  clear h; have h := h'; clear h'
  have hu := und_inv hd
  split at h
  · next len e id off =>
    cases hx with | @ptr _ _ y hy =>
    obtain ⟨h1, h'⟩ := E.whn_inv h
    clear h; have h := h'; clear h'
    rw [Bool.and_eq_true, nblt_eq, decide_eq_true_iff] at h1
    obtain ⟨inf, hinf⟩ := info_of h1.2
    rw [force_eq] at h; cases h
    have h2 : ((n : Int) < (len : Int)) := by have := h1.1; omega
    refine ⟨.pointer (some ⟨y.b, y.base + (off + n * szOf P e), none⟩), ?_, .ptr hy⟩
    simp [Instr.indexAt, asIntOf, run_underlying hu, Instr.sureAddr, h2, h1.1, sz_run hinf, add_none, Nat.add_assoc]
  · next e id off len c =>
    obtain ⟨h1, h'⟩ := E.whn_inv h
    clear h; have h := h'; clear h'
    rw [Bool.and_eq_true, nblt_eq, decide_eq_true_iff] at h1
    obtain ⟨inf, hinf⟩ := info_of h1.2
    rw [force_eq] at h; cases h
    cases hx with | @sl _ _ _ cap o _ y hy hl hm hc ho hs =>
    have h2 : ((n : Int) < (len : Int)) := by have := h1.1; omega
    have h3 : o = y.base + off := ho.resolve_left (by omega)
    subst h3
    refine ⟨.pointer (some ⟨y.b, y.base + (off + n * szOf P e), none⟩), ?_, .ptr hy⟩
    simp [Instr.indexAt, asIntOf, run_underlying hu, h2, h1.1, sz_run hinf, add_none, Nat.add_assoc]
  · exact nomatch h

theorem index_sound {t : TypeId} {x i v : AV} {a b : Value} (h : index P t x i = .ok v) (hx : VRel G x a) (hi : VRel G i b) : ∃ u, (Instr.index t a b).run P w = .ok u w ∧ VRel G v u := by
  obtain ⟨n, hn, h'⟩ := E.b_inv h
  clear h; have h := h'; clear h'
  obtain ⟨k, rfl⟩ := asNat_inv hn hi
  obtain ⟨d, hd, h'⟩ := E.b_inv h
  clear h; have h := h'; clear h'
  have hu := und_inv hd
  split at h
  · next len e cs =>
    obtain ⟨c, rfl, hc⟩ := hx.agg_inv
    obtain ⟨h1, h'⟩ := E.whn_inv h
    clear h; have h := h'; clear h'
    rw [Bool.and_eq_true, nblt_eq, decide_eq_true_iff] at h1
    obtain ⟨inf, hinf⟩ := info_of h1.2
    obtain ⟨u, h3, h4⟩ := part_sound (w := w) hc h
    have h2 : ((n : Int) < (len : Int)) := by have := h1.1; omega
    exact ⟨u, by simp [Instr.index, asIntOf, run_underlying hu, h2, h1.1, sz_run hinf, h3], h4⟩
  · next s =>
    cases hx with | @str _ s' hs =>
    obtain ⟨b, hb, h'⟩ := E.b_inv h
    clear h; have h := h'; clear h'
    replace hb := E.of_inv hb
    obtain ⟨h1, h'⟩ := E.whn_inv h
    clear h; have h := h'; clear h'
    rw [force_eq] at h; cases h
    rw [nthL_eq] at hb
    subst hs
    have hl : n < s'.size := by
      have := (List.getElem?_eq_some_iff.1 hb).1
      rwa [bytesL_size] at this
    have e : s'[n]?.map UInt8.toNat = some b := by
      rw [← hb]; simp [bytesL]; rfl
    refine ⟨.int .u8 (Int.ofNat b), ?_, .int _ _⟩
    cases hg : s'[n]? with
    | none => rw [hg] at e; simp at e
    | some y =>
      rw [hg] at e
      have : y.toNat = b := by simpa using e
      simp [Instr.index, asIntOf, run_underlying hu, hg, this]
  · exact nomatch h

theorem extract_sound {x v : AV} {i : Nat} {a : Value} (h : (match x with | .tup vs => E.of 116 (nthL vs i) | _ => .er 116 : E AV) = .ok v) (hx : VRel G x a) : ∃ u, (Instr.extract a i).run P w = .ok u w ∧ VRel G v u := by
  split at h
  · next vs =>
    obtain ⟨c, rfl, hc⟩ := hx.tup_inv
    replace h := E.of_inv h
    rw [nthL_eq] at h
    obtain ⟨u, hu, hvu⟩ := hc.get h
    exact ⟨u, by have : c[i]? = some u := by simpa using hu
                 simp [Instr.extract, this], hvu⟩
  · exact nomatch h
theorem unary_sound {op : UnOp} {x v : AV} {a : Value} (h : unary op x = .ok v) (hx : VRel G x a) : ∃ u, (Op.unary op a).run P w = .ok u w ∧ VRel G v u := by
  unfold unary at h
  split at h
  · cases hx
    have := okI_inv h; subst this
    rw [wrapF_eq]; exact ⟨_, by simp only [Op.unary, Op.intArith]; rfl, .int _ _⟩
  · cases hx
    rw [okBool_eq] at h; cases h
    exact ⟨_, by simp [Op.unary], .bool _⟩
  · exact nomatch h

theorem least_some {l : List String} (h : l ≠ []) : ∃ s, Instr.least l = some s := by
  cases l with
  | nil => exact absurd rfl h
  | cons a l => exact ⟨_, rfl⟩
theorem missing_iff (want : Array (String × TypeId)) (got : Array Method) : (hasAll want got = true → Instr.missingMethod want got = none) ∧ (hasAll want got = false → ∃ s, Instr.missingMethod want got = some s) := by
  have e : ∀ l : List (String × TypeId), (l.all fun x => got.any fun m => m.name == x.1 && m.sig == x.2) = true ↔ l.filter (fun (x : String × TypeId) => !got.any fun m => m.name == x.1 && m.sig == x.2) = [] := by
    intro l
    simp [List.filter_eq_nil_iff]
  constructor
  · intro h
    have := (e want.toList).1 h
    unfold Instr.missingMethod
    simp only
    rw [this]
    rfl
  · intro h
    have hne : want.toList.filter (fun (x : String × TypeId) => !got.any fun m => m.name == x.1 && m.sig == x.2) ≠ [] := fun q => by
      have := (e want.toList).2 q
      unfold hasAll at h
      rw [this] at h; simp at h
    unfold Instr.missingMethod
    simp only
    generalize hm : (want.toList.filter fun (x : String × TypeId) => !got.any fun m => m.name == x.1 && m.sig == x.2).map (·.1) = l
    have hl : l ≠ [] := by rw [← hm]; simpa using hne
    rw [List.partition_eq_filter_filter]
    simp only
    by_cases q : l.filter (not ∘ fun s : String => s.contains (Char.ofNat (nat_lit 46))) = []
    · have : l.filter (fun s : String => s.contains (Char.ofNat (nat_lit 46))) ≠ [] := by
        intro q2
        cases l with
        | nil => exact hl rfl
        | cons a l =>
          by_cases hc : (Char.ofNat (nat_lit 46)) ∈ a.toList <;> simp [List.filter_cons, hc] at q q2
      obtain ⟨s, hs⟩ := least_some (l := (l.filter (fun s : String => s.contains (Char.ofNat (nat_lit 46)))).map fun id => (id.splitOn ".").getLastD id) (by simpa using this)
      rw [q, hs]
      exact ⟨s, rfl⟩
    · obtain ⟨s, hs⟩ := least_some q
      rw [hs]
      exact ⟨s, rfl⟩
theorem assert_sound {t xt : TypeId} {ok : Bool} {x v : AV} {a : Value} (h : assert P t ok x = .ok v) (hx : VRel G x a) : ∃ u, (Instr.typeAssert a xt t ok).run P w = .ok u w ∧ VRel G v u := by
  unfold assert at h
  simp only at h
  obtain ⟨d, hd, h'⟩ := E.b_inv h
  clear h; have h := h'; clear h'
  have hu := und_inv hd
  have yes : ∀ {y : AV} {b : Value}, VRel G y b → (E.ok (bif ok then .tup [y, .bool true] else y) : E AV) = .ok v → VRel G v (if ok then .tuple #[b, .bool true] else b) := by
    intro y b hy h
    cases h
    cases ok with
    | true => exact .ofTup (.cons hy (.cons (.bool true) (.nil G)))
    | false => exact hy
  have no : (bif ok then (zval P t).b fun z => .ok (.tup [z, .bool false]) else .er 56 : E AV) = .ok v → ok = true ∧ ∃ z, (zeroValue t).run P w = .ok z w ∧ VRel G v (.tuple #[z, .bool false]) := by
    intro h
    cases ok with
    | true =>
      obtain ⟨z, hz, h'⟩ := E.b_inv h
      clear h; have h := h'; clear h'
      cases h
      obtain ⟨z', h1, h2⟩ := zval_sound (G := G) (w := w) hz
      exact ⟨rfl, z', h1, .ofTup (.cons h2 (.cons (.bool false) (.nil G)))⟩
    | false => exact nomatch h
  split at h
  · cases hx
    obtain ⟨rfl, z, h1, h2⟩ := no h
    exact ⟨_, by simp [Instr.typeAssert, run_underlying hu, h1], h2⟩
  · next want d y =>
    cases hx with | @ifc _ _ b hy =>
    split at h
    · next i hi =>
      cases hq : hasAll want i.methods with
      | false =>
        rw [hq] at h
        obtain ⟨s, hs⟩ := (missing_iff want i.methods).2 hq
        obtain ⟨rfl, z, h1, h2⟩ := no h
        exact ⟨_, by simp [Instr.typeAssert, run_underlying hu, typeInfo, hi, hs, h1], h2⟩
      | true =>
        rw [hq] at h
        have hs := (missing_iff want i.methods).1 hq
        exact ⟨_, by simp [Instr.typeAssert, run_underlying hu, typeInfo, hi, hs], yes (.ifc hy) h⟩
    · exact nomatch h
  · next hn =>
    cases hx
    obtain ⟨rfl, z, h1, h2⟩ := no h
    cases d with
    | interface m => exact (hn _ rfl).elim
    | _ => exact ⟨_, by simp [Instr.typeAssert, run_underlying hu, h1], h2⟩
  · next d' y hn =>
    cases hx with | @ifc _ _ b hy =>
    cases hb : Nat.beq d' t with
    | true =>
      rw [hb] at h
      rw [nbeq_eq, decide_eq_true_iff] at hb
      subst hb
      cases d with
      | interface m => exact (hn _ rfl).elim
      | _ => exact ⟨_, by simp [Instr.typeAssert, run_underlying hu], yes hy h⟩
    | false =>
      rw [hb] at h
      rw [nbeq_eq, decide_eq_false_iff_not] at hb
      obtain ⟨rfl, z, h1, h2⟩ := no h
      cases d with
      | interface m => exact (hn _ rfl).elim
      | _ => exact ⟨_, by simp [Instr.typeAssert, run_underlying hu, hb, h1], h2⟩
  · exact nomatch h
end
end Go.X

