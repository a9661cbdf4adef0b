/- The interpreter of closed calls, and that it is right (part XD): a run of it that ends well tells what the call in the model gives. Conditions: none. -/
import Derived.Test.YtnbgklfnaagklaaGreatDoorXC
import Derived.Laws.RangeString
import Derived.Lib.UnsafeStr
import Derived.Laws.Externs
set_option linter.unusedVariables false
set_option linter.unusedSimpArgs false
/- The interpreter is right, part 13: maps written, rows copied, strings of bytes. -/
namespace Go.X
open Go
section
variable {C : Cx} {B : Nat} {G : Gh} {H : Hp} {w : World} {P : Program}

/-! ### Values that are alike -/
mutual
theorem AV.eqb_eq : ∀ (a b : AV), a.eqb b = true → a = b
  | .bool a, b, h => by cases b <;> simp_all [AV.eqb, eqB_eq]
  | .int k a, b, h => by cases b <;> simp_all [AV.eqb, eqK_iff, eqI_eq]
  | .flt k a, b, h => by cases b <;> simp_all [AV.eqb, eqFK_iff, nbeq_eq]
  | .cpx k a c, b, h => by cases b <;> simp_all [AV.eqb, eqFK_iff, nbeq_eq]
  | .str a, b, h => by cases b <;> simp_all [AV.eqb, eqL_iff]
  | .nilp, b, h => by cases b <;> simp_all [AV.eqb]
  | .nils, b, h => by cases b <;> simp_all [AV.eqb]
  | .nilm, b, h => by cases b <;> simp_all [AV.eqb]
  | .nilf, b, h => by cases b <;> simp_all [AV.eqb]
  | .nili, b, h => by cases b <;> simp_all [AV.eqb]
  | .bad, b, h => by cases b <;> simp_all [AV.eqb]
  | .ptr a c, b, h => by cases b <;> simp_all [AV.eqb, nbeq_eq]
  | .sl a c d e, b, h => by cases b <;> simp_all [AV.eqb, nbeq_eq, eqON_iff]
  | .mref a, b, h => by cases b <;> simp_all [AV.eqb, nbeq_eq]
  | .yld a, b, h => by cases b <;> simp_all [AV.eqb, nbeq_eq]
  | .ifc t v, b, h => by
    cases b with
    | ifc u x =>
      rw [AV.eqb, Bool.and_eq_true, nbeq_eq, decide_eq_true_iff] at h
      rw [h.1, AV.eqb_eq v x h.2]
    | _ => simp [AV.eqb] at h
  | .agg l, b, h => by
    cases b with
    | agg m => rw [AV.eqb] at h; rw [eqbs_eq l m h]
    | _ => simp [AV.eqb] at h
  | .tup l, b, h => by
    cases b with
    | tup m => rw [AV.eqb] at h; rw [eqbs_eq l m h]
    | _ => simp [AV.eqb] at h
  | .fn f x y, b, h => by
    cases b with
    | fn g x' y' =>
      cases f with
      | func n => cases g with
        | func m =>
          rw [AV.eqb, Bool.and_eq_true, Bool.and_eq_true, nbeq_eq, decide_eq_true_iff] at h
          rw [h.1.1, eqbs_eq x x' h.1.2, eqbs_eq y y' h.2]
        | _ => simp [AV.eqb] at h
      | _ => simp [AV.eqb] at h
    | _ => cases f <;> simp [AV.eqb] at h
theorem eqbs_eq : ∀ (a b : List AV), eqbs a b = true → a = b
  | [], [], _ => rfl
  | [], _ :: _, h => by simp [eqbs] at h
  | _ :: _, [], h => by simp [eqbs] at h
  | a :: r, b :: s, h => by
    rw [eqbs, Bool.and_eq_true] at h
    rw [AV.eqb_eq a b h.1, eqbs_eq r s h.2]
end

theorem bytes_beq (s : ByteArray) : (s == s) = true := by
  show (s.data == s.data) = true
  simp
theorem key1_same {a : AV} (h : key1 a = true) {u v : Value} (hu : VRel G a u) (hv : VRel G a v) (n : Nat) : Instr.sameBits n u v = true := by
  cases a with
  | bool b => cases hu; cases hv; cases n <;> simp [Instr.sameBits]
  | int k m => cases hu; cases hv; cases n <;> simp [Instr.sameBits]
  | str l =>
    cases hu with | str h1 =>
    cases hv with | str h2 =>
    have := bytesL_inj (h1.trans h2.symm)
    subst this
    cases n <;> simp only [Instr.sameBits] <;> exact bytes_beq _
  | _ => simp [key1] at h
theorem key_same {a : AV} (h : keyOK a = true) {u v : Value} (hu : VRel G a u) (hv : VRel G a v) (n : Nat) : Instr.sameBits (n + 1) u v = true := by
  cases a with
  | agg cs =>
    obtain ⟨c, rfl, h1⟩ := hu.agg_inv
    obtain ⟨d, rfl, h2⟩ := hv.agg_inv
    have hl1 := h1.1
    have hl2 := h2.1
    simp only [Array.length_toList] at hl1 hl2
    simp only [Instr.sameBits, Bool.and_eq_true, beq_iff_eq]
    refine ⟨by omega, ?_⟩
    have h : cs.all key1 = true := h
    clear hu hv hl1 hl2
    generalize c.toList = x at h1
    generalize d.toList = y at h2
    induction cs generalizing x y with
    | nil => rw [h1.nil_inv]; rfl
    | cons a r ih =>
      obtain ⟨u, us, rfl, a1, a2⟩ := h1.cons_inv
      obtain ⟨v, vs, rfl, b1, b2⟩ := h2.cons_inv
      simp only [List.all_cons, Bool.and_eq_true] at h
      simp only [List.zip_cons_cons, List.all_cons, Bool.and_eq_true]
      exact ⟨key1_same h.1 a1 b1 n, ih h.2 h.2 us a2 vs b2⟩
  | _ => exact key1_same (by exact h) hu hv (n + 1)
theorem run_keyThatStays {a b : AV} (h : (keyOK b && a.eqb b) = true) {u v : Value} (hu : VRel G a u) (hv : VRel G b v) : (Instr.keyThatStays u v).run P w = .ok v w := by
  rw [Bool.and_eq_true] at h
  have := AV.eqb_eq _ _ h.2
  subst this
  have := key_same h.1 hu hv 9999
  simp [Instr.keyThatStays, this]

/-! ### Lists of two -/
theorem All2.getR {α β : Type} {R : α → β → Prop} {l : List α} {m : List β} (h : All2 R l m) : ∀ {i : Nat} {a : α}, l[i]? = some a → ∃ b, m[i]? = some b ∧ R a b := by
  induction h with
  | nil => intro i a h; simp at h
  | cons x _ ih =>
    intro i a h
    cases i with
    | zero => simp at h; subst h; exact ⟨_, rfl, x⟩
    | succ i => exact ih (by simpa using h)
theorem All2.setMod {α β : Type} {R : α → β → Prop} {l : List α} {m : List β} (h : All2 R l m) {a : α} {f : β → β} : ∀ {i : Nat}, (∀ b, m[i]? = some b → R a (f b)) → All2 R (l.set i a) (m.modify i f) := by
  induction h with
  | nil => intro i _; simp; exact .nil
  | cons x t ih =>
    intro i hf
    cases i with
    | zero => simp only [List.set_cons_zero, List.modify_zero_cons]; exact .cons (hf _ rfl) t
    | succ i => simp only [List.set_cons_succ, List.modify_succ_cons]; exact .cons x (ih fun b hb => hf b (by simpa using hb))
theorem All2.eraseIdx {α β : Type} {R : α → β → Prop} {l : List α} {m : List β} (h : All2 R l m) : ∀ (i : Nat), All2 R (l.eraseIdx i) (m.eraseIdx i) := by
  induction h with
  | nil => intro i; simp; exact .nil
  | cons x t ih =>
    intro i
    cases i with
    | zero => exact t
    | succ i => exact .cons x (ih i)
theorem All2.filter {α β : Type} {R : α → β → Prop} {l : List α} {m : List β} (h : All2 R l m) {p : α → Bool} {q : β → Bool} (hpq : ∀ a b, R a b → p a = q b) : All2 R (l.filter p) (m.filter q) := by
  induction h with
  | nil => exact .nil
  | @cons a b _ _ x t ih =>
    have := hpq a b x
    cases hp : p a with
    | true => rw [List.filter_cons_of_pos hp, List.filter_cons_of_pos (this ▸ hp)]; exact .cons x ih
    | false => rw [List.filter_cons_of_neg (by simp [hp]), List.filter_cons_of_neg (by simp [← this, hp])]; exact ih
theorem All2.map {α β γ δ : Type} {R : α → β → Prop} {S : γ → δ → Prop} {l : List α} {m : List β} (h : All2 R l m) {f : α → γ} {g : β → δ} (hfg : ∀ a b, R a b → S (f a) (g b)) : All2 S (l.map f) (m.map g) := by
  induction h with
  | nil => exact .nil
  | cons x _ ih => exact .cons (hfg _ _ x) ih
theorem All2.all {α β : Type} {R : α → β → Prop} {l : List α} {m : List β} (h : All2 R l m) {p : α → Bool} {q : β → Bool} (hpq : ∀ a b, R a b → p a = q b) : l.all p = m.all q := by
  induction h with
  | nil => rfl
  | cons x _ ih => simp only [List.all_cons, ih, hpq _ _ x]
theorem All2.find {α β : Type} {R : α → β → Prop} {l : List α} {m : List β} (h : All2 R l m) {p : α → Bool} {q : β → Bool} (hpq : ∀ a b, R a b → p a = q b) {a : α} (hf : l.find? p = some a) : ∃ b, m.find? q = some b ∧ R a b := by
  induction h with
  | nil => simp at hf
  | @cons a' b' _ _ x _ ih =>
    have := hpq _ _ x
    rw [List.find?_cons] at hf ⊢
    cases hp : p a' with
    | true => rw [hp] at hf; cases hf; rw [← this, hp]; exact ⟨b', rfl, x⟩
    | false => rw [hp] at hf; rw [← this, hp]; exact ih hf
theorem All2.findIdx {α β : Type} {R : α → β → Prop} {l : List α} {m : List β} (h : All2 R l m) {p : α → Bool} {q : β → Bool} (hpq : ∀ a b, R a b → p a = q b) : l.findIdx? p = m.findIdx? q := by
  induction h with
  | nil => rfl
  | cons x _ ih => simp only [List.findIdx?_cons, ih, hpq _ _ x]

/-! ### An object that is no row is written -/
theorem ORel.world {o : XObj} {x : Blk} {w w' : World} (h : ORel C G w x o) (hk : w'.heap[x.b]? = w.heap[x.b]?) : ORel C G w' x o := h.keep G.le_refl hk
theorem obj_write (hr : HR C B G H w) {id : Nat} {x : Blk} {o o' : XObj} {ob ob' : Obj} (hg : H.get id = some o) (hx : G id = some x) (hf : o.fixed = false) (hh : w.heap[x.b]? = some ob) (hnc : ∀ c e f, ob ≠ .cells c e f)
    (ho : ∀ w' : World, w'.heap[x.b]? = some ob' → ORel C G w' x o') :
    ∃ w', (setObj x.b ob').run P w = .ok () w' ∧ HR C B G (H.upd id o') w' ∧ WK B w w' ∧ w'.heap[x.b]? = some ob' := by
  have hlt := hr.lt id x hx
  have hself : (w.heap.setIfInBounds x.b ob')[x.b]? = some ob' := by simp [Array.getElem?_setIfInBounds, hlt]
  have hw := hr.write hg hx hf (w' := { w with heap := w.heap.setIfInBounds x.b ob' }) (o' := o') (by simp) (fun b hb => by simp [Array.getElem?_setIfInBounds, Ne.symm hb]) (ho _ hself)
  refine ⟨_, ?_, hw.1, hw.2 rfl rfl rfl, hself⟩
  simp only [setObj, Sem.run, hh]
theorem run_getObj {b : Nat} {ob : Obj} (hh : w.heap[b]? = some ob) (hnc : ∀ c e f, ob ≠ .cells c e f) : (getObj b).run P w = .ok ob w := by
  simp only [getObj, Sem.run, hh]

/-! ### Maps -/
theorem mapKV_inv (hr : HR C B G H w) {kt : TypeId} {mv kv : AV} {a k : Value} {f : List XEnt → Nat → Option (Nat × XEnt) → E Nx} {nx : Nx} (h : mapKV P H kt mv kv f = .ok nx) (hm : VRel G mv a) (hk : VRel G kv k) :
    ∃ id x es c r q en, mv = .mref id ∧ a = .map (some x.b) ∧ G id = some x ∧ H.get id = some (.map es c) ∧ w.heap[x.b]? = some (.map en c) ∧ All2 (EntRel G) es en.toList ∧ (∀ emp, (Instr.checkKey emp 10000 kt k).run P w = .ok () w) ∧
      (Instr.findKey kt k en.toList).run P w = .ok q w ∧ FRel G r q es en.toList 0 ∧ f es c r = .ok nx := by
  unfold mapKV at h
  split at h
  · next id =>
    obtain ⟨b, hck, h'⟩ := E.b_inv h
    obtain ⟨m, hmp, h''⟩ := E.b_inv h'
    obtain ⟨r, hf, h3⟩ := E.b_inv h''
    rw [force_eq] at h3
    cases hm with | @mref _ y hy =>
    obtain ⟨en, h1, h2⟩ := map_read hr hy hmp
    obtain ⟨q, h4, h5⟩ := find_sound (P := P) (w := w) hk hf h2 (ckey_und hck)
    exact ⟨id, y, m.1, m.2, r, q, en, rfl, rfl, hy, map_inv hmp, h1, h2, fun emp => ckey_sound (w := w) 5 kt kv k b hck hk emp 10000 (by decide), h4, h5, h3⟩
  · exact nomatch h

theorem entry_found {r : Nat × XEnt} {q : Nat × Value} {es : List XEnt} {en : Array MapEntry} (h : FRel G (some r) (some q) es en.toList 0) : r.1 = q.1 ∧ ∃ e', en[r.1]? = some e' ∧ es[r.1]? = some r.2 ∧ EntRel G r.2 e' ∧ q.2 = e'.val := by
  obtain ⟨i, e⟩ := r
  obtain ⟨j, v⟩ := q
  obtain ⟨h1, _, e', h2, h3, h4, h5⟩ := h
  exact ⟨h1, e', by simpa using h2, by simpa using h3, h4, h5⟩

theorem mapUpdate_sound (hr : HR C B G H w) {t kt et : TypeId} (ht : P.underlying t = some (.map kt et)) {mv kv xv : AV} {a k x : Value} {nx : Nx} (hm : VRel G mv a) (hk : VRel G kv k) (hx : VRel G xv x)
    (h : (mapKV P H kt mv kv fun es c r => match r with
      | some (i, e) => E.whn (keyOK kv && e.key.eqb kv) 101 <| forceL (es.set i ⟨kv, xv, e.born⟩) fun es => H.setK (refOf mv) (.map es c) fun H => .ok (.val (.tup []) H)
      | none => force (Nat.succ c) fun c' => forceL (es ++ [⟨kv, xv, c⟩]) fun es => H.setK (refOf mv) (.map es c') fun H => .ok (.val (.tup []) H)) = .ok nx) :
    ∃ w' H', nx = .val (.tup []) H' ∧ (Instr.mapUpdate t a k x).run P w = .ok () w' ∧ HR C B G H' w' ∧ WK B w w' ∧ H'.nx = H.nx := by
  obtain ⟨id, y, es, c, r, q, en, rfl, rfl, hy, hg, hh, hall, hck, hfk, hfr, hf⟩ := mapKV_inv hr h hm hk
  clear h
  have href : refOf (.mref id) = id := rfl
  rw [href] at hf
  cases r with
  | none =>
    cases q with
    | some q => exact hfr.elim
    | none =>
      simp only [force_eq, forceL_eq, Hp.setK_eq] at hf
      cases hf
      obtain ⟨w', h1, h2, h3, _⟩ := obj_write (P := P) hr hg hy rfl hh (by simp) (ob' := .map (en.push { key := k, val := x, born := c }) (c + 1)) (o' := .map (es ++ [⟨kv, xv, c⟩]) (Nat.succ c)) (fun w' hw' =>
        ⟨_, hw', by simpa using hall.append (.cons ⟨hk, hx, rfl⟩ .nil)⟩)
      exact ⟨w', _, rfl, by simp [Instr.mapUpdate, run_underlying ht, MapKept.run_getObj_map hh, hck, hfk, h1], h2, h3, rfl⟩
  | some r =>
    cases q with
    | none => exact hfr.elim
    | some q =>
      obtain ⟨hi, e', he', he, her, hqv⟩ := entry_found hfr
      obtain ⟨i, e⟩ := r
      obtain ⟨j, v⟩ := q
      cases hi
      obtain ⟨hkk, hf2⟩ := E.whn_inv hf
      simp only [forceL_eq, Hp.setK_eq] at hf2
      cases hf2
      obtain ⟨w', h1, h2, h3, _⟩ := obj_write (P := P) hr hg hy rfl hh (by simp) (ob' := .map (en.modify i fun e => { e with key := k, val := x }) c) (o' := .map (es.set i ⟨kv, xv, e.born⟩) c) (fun w' hw' =>
        ⟨_, hw', by
          rw [Array.toList_modify]
          exact hall.setMod fun b hb => by
            have : b = e' := by
              have he'' : en.toList[i]? = some e' := by simpa using he'
              rw [he''] at hb; cases hb; rfl
            subst this
            exact ⟨hk, hx, her.2.2⟩⟩)
      have hks := run_keyThatStays (P := P) (w := w) hkk her.1 hk
      exact ⟨w', _, rfl, by simp [Instr.mapUpdate, run_underlying ht, MapKept.run_getObj_map hh, hck, hfk, he', hks, h1], h2, h3, rfl⟩

theorem mapEntry_sound (hr : HR C B G H w) {t kt et : TypeId} (ht : P.underlying t = some (.map kt et)) {mv kv : AV} {a k : Value} {nx : Nx} (hm : VRel G mv a) (hk : VRel G kv k)
    (h : (mapKV P H kt mv kv fun es c r => match r with
      | some (i, e) => E.whn (keyOK kv && e.key.eqb kv) 101 <| forceL (es.set i ⟨kv, e.val, e.born⟩) fun es => H.setK (refOf mv) (.map es c) fun H => .ok (.val (.tup [e.val, .int .i64 (Int.ofNat e.born)]) H)
      | none => (zval P et).b fun z => force (Nat.succ c) fun c' => forceL (es ++ [⟨kv, z, c⟩]) fun es => H.setK (refOf mv) (.map es c') fun H => .ok (.val (.tup [z, .int .i64 (Int.ofNat c)]) H)) = .ok nx) :
    ∃ v H', nx = .val v H' ∧ ValR C B G H w P (Instr.mapEntry t a k) v H' := by
  obtain ⟨id, y, es, c, r, q, en, rfl, rfl, hy, hg, hh, hall, hck, hfk, hfr, hf⟩ := mapKV_inv hr h hm hk
  clear h
  have href : refOf (.mref id) = id := rfl
  rw [href] at hf
  cases r with
  | none =>
    cases q with
    | some q => exact hfr.elim
    | none =>
      obtain ⟨z, hz, hf2⟩ := E.b_inv hf
      obtain ⟨z', hz1, hz2⟩ := zval_sound (G := G) (w := w) hz
      simp only [force_eq, forceL_eq, Hp.setK_eq] at hf2
      cases hf2
      obtain ⟨w', h1, h2, h3, _⟩ := obj_write (P := P) hr hg hy rfl hh (by simp) (ob' := .map (en.push { key := k, val := z', born := c }) (c + 1)) (o' := .map (es ++ [⟨kv, z, c⟩]) (Nat.succ c)) (fun w' hw' =>
        ⟨_, hw', by simpa using hall.append (.cons ⟨hk, hz2, rfl⟩ .nil)⟩)
      exact ⟨_, _, rfl, .tuple #[z', goInt c], w', G, by simp [Instr.mapEntry, run_underlying ht, MapKept.run_getObj_map hh, hck, hfk, hz1, h1], Gh.ext_refl _ _, h2, .ofTup (.cons hz2 (.cons (.int _ _) (.nil G))), h3, Nat.le_refl _⟩
  | some r =>
    cases q with
    | none => exact hfr.elim
    | some q =>
      obtain ⟨hi, e', he', he, her, hqv⟩ := entry_found hfr
      obtain ⟨i, e⟩ := r
      obtain ⟨j, v⟩ := q
      cases hi
      cases hqv
      obtain ⟨hkk, hf2⟩ := E.whn_inv hf
      simp only [forceL_eq, Hp.setK_eq] at hf2
      cases hf2
      obtain ⟨w', h1, h2, h3, _⟩ := obj_write (P := P) hr hg hy rfl hh (by simp) (ob' := .map (en.modify i fun e => { e with key := k }) c) (o' := .map (es.set i ⟨kv, e.val, e.born⟩) c) (fun w' hw' =>
        ⟨_, hw', by
          rw [Array.toList_modify]
          exact hall.setMod fun b hb => by
            have : b = e' := by
              have he'' : en.toList[i]? = some e' := by simpa using he'
              rw [he''] at hb; cases hb; rfl
            subst this
            exact ⟨hk, her.2.1, her.2.2⟩⟩)
      have hks := run_keyThatStays (P := P) (w := w) hkk her.1 hk
      refine ⟨_, _, rfl, .tuple #[e'.val, goInt e'.born], w', G, by simp [Instr.mapEntry, run_underlying ht, MapKept.run_getObj_map hh, hck, hfk, he', hks, h1], Gh.ext_refl _ _, h2, .ofTup (.cons her.2.1 (.cons ?_ (.nil G))), h3, Nat.le_refl _⟩
      have := her.2.2
      simp only at this
      rw [this]; exact .int _ _

theorem entryStore_sound (hr : HR C B G H w) {t : TypeId} {mv sv xv : AV} {a s x : Value} {nx : Nx} (hm : VRel G mv a) (hs : VRel G sv s) (hx : VRel G xv x)
    (h : (match (generalizing := false) mv with
    | .mref i0 => (H.map i0).b fun mpv => (asNat sv).b fun st => match mpv.1.findIdx? (fun e => Nat.beq e.born st) with
      | some i => match mpv.1[i]? with
        | some e => forceL (mpv.1.set i ⟨e.key, xv, e.born⟩) fun es => force mpv.2 fun c => H.setK i0 (.map es c) fun H => .ok (.val (.tup []) H)
        | none => .er 121
      | none => .er 121
    | _ => .er 121 : E Nx) = .ok nx) :
    ∃ w' H', nx = .val (.tup []) H' ∧ (Instr.entryStore t a s x).run P w = .ok () w' ∧ HR C B G H' w' ∧ WK B w w' ∧ H'.nx = H.nx := by
  cases mv with
  | mref id =>
    obtain ⟨m, hmp, h1⟩ := E.b_inv h
    obtain ⟨st, hst, h2⟩ := E.b_inv h1
    clear h h1
    obtain ⟨k, rfl⟩ := asNat_inv hst hs
    cases hm with | @mref _ y hy =>
    obtain ⟨en, hh, hall⟩ := map_read hr hy hmp
    split at h2
    · next i hi =>
      split at h2
      · next e he =>
        simp only [forceL_eq, force_eq, Hp.setK_eq] at h2
        cases h2
        have hfi : en.findIdx? (fun e => (e.born : Int) == Int.ofNat st) = some i := by
          have e0 : en.findIdx? (fun e => (e.born : Int) == Int.ofNat st) = en.toList.findIdx? (fun e => (e.born : Int) == Int.ofNat st) := by cases en; simp
          rw [e0, ← hi]
          symm
          refine hall.findIdx fun a b hab => ?_
          rw [hab.2.2, nbeq_eq, Bool.eq_iff_iff, decide_eq_true_iff, beq_iff_eq, Int.ofNat_eq_natCast]
          omega
        obtain ⟨w', h1, h2, h3, _⟩ := obj_write (P := P) hr (map_inv hmp) hy rfl hh (by simp) (ob' := .map (en.modify i fun e => { e with val := x }) m.2) (o' := .map (m.1.set i ⟨e.key, xv, e.born⟩) m.2) (fun w' hw' =>
          ⟨_, hw', by
            rw [Array.toList_modify]
            exact hall.setMod fun b hb => by
              obtain ⟨b', hb', hr'⟩ := hall.getR he
              rw [hb] at hb'; cases hb'
              exact ⟨hr'.1, hx, hr'.2.2⟩⟩)
        refine ⟨w', _, rfl, ?_, h2, h3, rfl⟩
        simp only [Int.ofNat_eq_natCast] at hfi
        simp [Instr.entryStore, MapKept.run_getObj_map hh, Go.asInt, asIntOf, hfi, h1]
      · exact nomatch h2
    · exact nomatch h2
  | _ => exact nomatch h
end
end Go.X

/- The interpreter is right, part 14: delete, clear, copy; ranges; strings of bytes. -/
namespace Go.X
open Go
section
variable {C : Cx} {B : Nat} {G : Gh} {H : Hp} {w : World} {P : Program}

theorem delete_sound (hr : HR C B G H w) {t kt et ty : TypeId} {ts : Array TypeId} (hts : ts[0]? = some t) (ht : P.underlying t = some (.map kt et)) {id : Nat} {kv : AV} {a k : Value} {nx : Nx} (hm : VRel G (.mref id) a) (hk : VRel G kv k)
    (h : ((ckey P 5 kt kv).b fun _ => ((H.map id).b fun m => (findK P kt kv m.1 0).b fun r => match r with
        | some (i, _) => forceL (m.1.eraseIdx i) fun es => force m.2 fun c => H.setK id (.map es c) fun H => .ok (.val (.tup []) H)
        | none => .ok (.val (.tup []) H)) : E Nx) = .ok nx) :
    ∃ v H', nx = .val v H' ∧ ValR C B G H w P (Builtin.delete_ ts ty #[a, k]) v H' := by
  obtain ⟨b, hck, h1⟩ := E.b_inv h
  obtain ⟨m, hmp, h2⟩ := E.b_inv h1
  obtain ⟨r, hf, h3⟩ := E.b_inv h2
  clear h h1 h2
  cases hm with | @mref _ y hy =>
  obtain ⟨en, hh, hall⟩ := map_read hr hy hmp
  obtain ⟨q, h4, h5⟩ := find_sound (P := P) (w := w) hk hf hall (ckey_und hck)
  have hc := fun emp => ckey_sound (w := w) 5 kt kv k b hck hk emp 10000 (by decide)
  cases r with
  | none =>
    cases q with
    | some q => exact h5.elim
    | none =>
      cases h3
      obtain ⟨w', g1, g2, g3, _⟩ := obj_write (P := P) hr (map_inv hmp) hy rfl hh (by simp) (ob' := .map en m.2) (o' := .map m.1 m.2) (fun w' hw' => ⟨_, hw', hall⟩)
      refine ⟨_, _, rfl, .tuple #[], w', G, by simp [Builtin.delete_, hts, run_underlying ht, MapKept.run_getObj_map hh, hc, h4, g1], Gh.ext_refl _ _, ?_, .ofTup (.nil G), g3, Nat.le_refl _⟩
      refine g2.drop rfl fun j o hj hg => ?_
      rw [Hp.get_upd _ (hr.id_lt' hy) (Nat.lt_of_lt_of_le hj hr.top)]
      split
      · next e => subst e; rw [map_inv hmp] at hg; exact hg
      · exact hg
  | some r =>
    cases q with
    | none => exact h5.elim
    | some q =>
      obtain ⟨hi, e', he', he, her, hqv⟩ := entry_found h5
      obtain ⟨i, e⟩ := r
      obtain ⟨j, v⟩ := q
      cases hi
      simp only [force_eq, forceL_eq, Hp.setK_eq] at h3
      cases h3
      have hlt : i < en.size := (Array.getElem?_eq_some_iff.1 he').1
      obtain ⟨w', g1, g2, g3, _⟩ := obj_write (P := P) hr (map_inv hmp) hy rfl hh (by simp) (ob' := .map (en.eraseIdxIfInBounds i) m.2) (o' := .map (m.1.eraseIdx i) m.2) (fun w' hw' =>
        ⟨_, hw', by
          have : (en.eraseIdxIfInBounds i).toList = en.toList.eraseIdx i := by simp [Array.eraseIdxIfInBounds, hlt]
          rw [this]
          exact hall.eraseIdx i⟩)
      exact ⟨_, _, rfl, .tuple #[], w', G, by simp [Builtin.delete_, hts, run_underlying ht, MapKept.run_getObj_map hh, hc, h4, g1], Gh.ext_refl _ _, g2, .ofTup (.nil G), g3, Nat.le_refl _⟩

theorem clear_sound (hr : HR C B G H w) {t ty : TypeId} {u : TypeDesc} {ts : Array TypeId} (hts : ts[0]? = some t) (ht : P.underlying t = some u) {id : Nat} {a : Value} {nx : Nx} (hm : VRel G (.mref id) a)
    (h : ((H.map id).b fun m => force m.2 fun c => H.setK id (.map [] c) fun H => .ok (.val (.tup []) H) : E Nx) = .ok nx) :
    ∃ v H', nx = .val v H' ∧ ValR C B G H w P (Builtin.clear_ ts ty #[a]) v H' := by
  obtain ⟨m, hmp, h2⟩ := E.b_inv h
  simp only [force_eq, Hp.setK_eq] at h2
  cases h2
  cases hm with | @mref _ y hy =>
  obtain ⟨en, hh, hall⟩ := map_read hr hy hmp
  obtain ⟨w', g1, g2, g3, _⟩ := obj_write (P := P) hr (map_inv hmp) hy rfl hh (by simp) (ob' := .map #[] m.2) (o' := .map [] m.2) (fun w' hw' => ⟨_, hw', .nil⟩)
  exact ⟨_, _, rfl, .tuple #[], w', G, by simp [Builtin.clear_, hts, run_underlying ht, MapKept.run_getObj_map hh, g1], Gh.ext_refl _ _, g2, .ofTup (.nil G), g3, Nat.le_refl _⟩

/-- The first cells of what is copied. -/
theorem first_cells (hr : HR C B G H w) {k len : Nat} {x : AV} {cs : List AV} {u : Value} (h : cellsOf H k x = .ok (len, cs)) (hx : VRel G x u) :
    ∃ news, (Builtin.lenOf u).run P w = .ok len w ∧ VRels G cs news ∧ news.length = len * k ∧ ∀ n, n ≤ len → (Builtin.firstCells k n u).run P w = .ok (news.take (n * k)).toArray w := by
  unfold cellsOf at h
  split at h
  · cases h
    cases hx
    exact ⟨[], rfl, .nil G, by simp, fun n hn => by
      have : n = 0 := by omega
      subst this
      simp [Builtin.firstCells]⟩
  · next id off len' cap =>
    obtain ⟨ar, har, h1⟩ := E.b_inv h
    obtain ⟨cs', hcs, h2⟩ := E.b_inv h1
    cases h2
    cases hx with | @sl _ _ _ capC o _ y hy hl hm hcc ho hsz =>
    obtain ⟨cc, el, fr, hh, hb, hone, hlen, hv⟩ := cells_read hr hy har hcs
    have hvr : VRels G cs ((List.range (len * k)).map fun j => cc.getD (y.base + off + j) undef) := by
      have := VRels.of_fn (f := fun j => cc.getD (y.base + off + j) undef) hv
      rwa [hlen] at this
    refine ⟨_, rfl, hvr, by simp, fun n hn => ?_⟩
    have hnk : n * k ≤ len * k := Nat.mul_le_mul_right _ hn
    refine run_firstCells_some (P := P) w k n ⟨y.b, o, none⟩ len capC _ (by rw [List.length_take, List.length_map, List.length_range]; omega) (fun j v hj => ?_)
    have hj2 : j < n * k := by
      have := (List.getElem?_eq_some_iff.1 hj).1
      rw [List.length_take] at this; omega
    have hj' : j < len * k := by omega
    have hl0 : capC ≠ 0 := by
      intro q
      have : len = 0 := by omega
      subst this; simp at hj'
    have ho' : o = y.base + off := ho.resolve_left hl0
    rw [add_none, ho', cell_at hh (hb j hj')]
    rw [List.getElem?_take_of_lt hj2] at hj
    simp [hj'] at hj
    rw [← hj, Array.getD_eq_getD_getElem?]
  · next l =>
    obtain ⟨h1, h2⟩ := E.whn_inv h
    simp only [forceL_eq, force_eq] at h2
    cases h2
    rw [Bool.and_eq_true, nbeq_eq, decide_eq_true_iff] at h1
    obtain ⟨rfl, h3⟩ := h1
    cases hx with | @str _ s hs' =>
    refine ⟨byteCells s, ?_, ?_, ?_, fun n hn => ?_⟩
    · rw [lenN_eq, ← hs', bytesL_size]; rfl
    · subst hs'
      have := VRels.map (G := G) (f := fun b : UInt8 => AV.int .u8 (Int.ofNat b.toNat)) (g := fun b : UInt8 => Value.int .u8 b.toNat) (fun b => .int _ _) s.data.toList
      simp only [bytesL, byteCells, List.map_map]
      exact this
    · rw [byteCells_length, lenN_eq, ← hs', bytesL_size, Nat.mul_one]
    · have e1 : (s.extract 0 n).data.toList = s.data.toList.take n := by simp
      simp only [Builtin.firstCells, Nat.mul_one]
      show Result.ok _ w = _
      congr 1
      apply Array.ext'
      rw [Array.toList_map, e1]
      simp [byteCells, List.map_take]
  · exact nomatch h

theorem copy_sound (hr : HR C B G H w) {t e ty : TypeId} {ts : Array TypeId} (hts : ts[0]? = some t) (ht : P.underlying t = some (.slice e)) (hi : ∃ i, P.info? e = some i) {d s : AV} {dv sv : Value} {nx : Nx} (hd : VRel G d dv) (hs : VRel G s sv)
    (h : copyTo P H e d s = .ok nx) : ∃ v H', nx = .val v H' ∧ ValR C B G H w P (Builtin.copy_ ts ty #[dv, sv]) v H' := by
  obtain ⟨i, hi⟩ := hi
  obtain ⟨c, hc, h1⟩ := E.b_inv h
  clear h
  obtain ⟨len, cs⟩ := c
  obtain ⟨news, g1, g2, g3, g4⟩ := first_cells (P := P) hr hc hs
  split at h1
  · cases h1
    cases hd
    refine ⟨_, _, rfl, goInt 0, w, G, ?_, Gh.ext_refl _ _, hr, .int _ _, WK.refl _ _, Nat.le_refl _⟩
    have := g4 0 (Nat.zero_le _)
    simp [Builtin.copy_, hts, run_underlying ht, g1, sz_run hi, this]
  · next id off dl cap =>
    cases hd with | @sl _ _ _ capC o _ y hy hl hm hcc ho hsz =>
    obtain ⟨ar, har, h2⟩ := E.b_inv h1
    obtain ⟨ob, hob, h3⟩ := E.b_inv h2
    rw [force_eq, Hp.setK_eq] at h3
    cases h3
    obtain ⟨w', r1, r2, r3⟩ := row_write (P := P) hr hy har hob (g2.take (min len dl * szOf P e))
    refine ⟨_, _, rfl, goInt ((min len dl : Nat) : Int), w', G, ?_, Gh.ext_refl _ _, r2, .int _ _, r3, Nat.le_refl _⟩
    have h5 := g4 (min len dl) (Nat.min_le_left _ _)
    have hst : (storeCells ⟨y.b, o, none⟩ (news.take (min len dl * szOf P e))).run P w = .ok () w' := by
      rcases ho with q | q
      · have : min len dl = 0 := by omega
        rw [this] at r1 ⊢
        simp [storeCells] at r1 ⊢
        exact r1
      · rw [q]; exact r1
    have hmin : Nat.min len dl = min len dl := rfl
    simp [Builtin.copy_, hts, run_underlying ht, g1, sz_run hi, hmin, h5, hst]
  · exact nomatch h1

/-! ### Ranges -/
theorem range_sound (hr : HR C B G H w) {t : TypeId} {x : AV} {a : Value} {v : AV} {H' : Hp} (hx : VRel G x a) (h : rangeOp P t H x = .ok (v, H')) : ValR C B G H w P (Instr.range t a) v H' := by
  obtain ⟨u, hu, h1⟩ := E.b_inv h
  have hu := und_inv hu
  clear h
  split at h1
  · next s _ =>
    obtain ⟨hnx, h2⟩ := Hp.new_inv h1
    cases h2
    cases hx with | @str _ s' hs =>
    obtain ⟨q1, q2, q3⟩ := hr.alloc hnx (o := .siter s 0) (ob := .stringIter s' 0) (x := ⟨w.heap.size, 0, 0, 0⟩) rfl ⟨s', heap_push_new, hs, rfl⟩
    exact ⟨_, _, _, by simp [Instr.range, run_underlying hu, newObj, Sem.run], Gh.ext_add _ hr.fresh, q1, .ptr (Gh.add_same _ _ _), q3, Nat.le_succ _⟩
  · next kt et m _ =>
    obtain ⟨mp, hmp, h2⟩ := E.b_inv h1
    obtain ⟨hnx, h3⟩ := Hp.new_inv h2
    cases h3
    cases hx with | @mref _ y hy =>
    obtain ⟨en, hh, hall⟩ := map_read hr hy hmp
    obtain ⟨q1, q2, q3⟩ := hr.alloc hnx (o := .miter (some m) mp.2 [] mp.2) (ob := .mapIter (some y.b) mp.2 #[] mp.2) (x := ⟨w.heap.size, 0, 0, 0⟩) rfl ⟨some y.b, heap_push_new, ⟨y, Gh.le_add _ hr.fresh _ _ hy, rfl⟩, rfl⟩
    exact ⟨_, _, _, by simp [Instr.range, run_underlying hu, MapKept.run_getObj_map hh, newObj, Sem.run], Gh.ext_add _ hr.fresh, q1, .ptr (Gh.add_same _ _ _), q3, Nat.le_succ _⟩
  · exact nomatch h1

/-- What is asked of a step: its value, or one of the ways. -/
def NextR (C : Cx) (B : Nat) (G : Gh) (H : Hp) (w : World) (P : Program) (s : Sem Value) (nx : Nx) : Prop :=
  (∃ v H', nx = .val v H' ∧ ValR C B G H w P s v H') ∨ ∃ l, nx = .branch l ∧ ∃ x ∈ l, ValR C B G H w P s x.1 x.2

def CandR (G : Gh) (a : Option XEnt) (b : Option MapEntry) : Prop := match a, b with
  | none, none => True
  | some a, some b => EntRel G a b
  | _, _ => False
theorem any_seen (seen : List Nat) (n : Nat) : seen.any (Nat.beq n) = seen.toArray.contains n := by
  rw [List.contains_toArray, Bool.eq_iff_iff, List.any_eq_true, List.contains_iff_mem]
  constructor
  · rintro ⟨x, hx, h⟩; rw [nbeq_eq, decide_eq_true_iff] at h; subst h; exact hx
  · intro h; exact ⟨n, h, by simp [nbeq_eq]⟩
theorem perms_rel {es : List XEnt} {en : Array MapEntry} (h : All2 (EntRel G) es en.toList) (since : Nat) (seen : List Nat) :
    let left := en.filter fun e => !seen.toArray.contains e.born
    let old := left.filter (·.born < since)
    let new := left.filter (·.born ≥ since)
    All2 (CandR G) (permsNext es since seen) ((if old.isEmpty then #[none] else #[]) ++ (old ++ new).map some).toList := by
  intro left old new
  have hl : All2 (EntRel G) (es.filter fun e => !seen.any (Nat.beq e.born)) left.toList := by
    simp only [left, Array.toList_filter]
    exact h.filter fun a b hab => by rw [any_seen, hab.2.2]
  have ho : All2 (EntRel G) ((es.filter fun e => !seen.any (Nat.beq e.born)).filter fun e => Nat.blt e.born since) old.toList := by
    simp only [old, Array.toList_filter]
    exact hl.filter fun a b hab => by rw [nblt_eq, hab.2.2]
  have hn : All2 (EntRel G) ((es.filter fun e => !seen.any (Nat.beq e.born)).filter fun e => !Nat.blt e.born since) new.toList := by
    simp only [new, Array.toList_filter]
    refine hl.filter fun a b hab => ?_
    rw [nblt_eq, hab.2.2, ← decide_not, decide_eq_decide]
    omega
  have hlen := ho.length
  have hemp : ((es.filter fun e => !seen.any (Nat.beq e.born)).filter fun e => Nat.blt e.born since).isEmpty = old.isEmpty := by
    rw [Bool.eq_iff_iff, List.isEmpty_iff, Array.isEmpty_iff_size_eq_zero, ← List.length_eq_zero_iff, hlen, Array.length_toList]
  simp only [permsNext, Array.toList_append, Array.toList_map, hemp]
  have hm := (ho.append hn).map (S := CandR G) (f := some) (g := some) fun a b hab => hab
  cases old.isEmpty with
  | true => exact .cons trivial hm
  | false => exact hm

theorem run_pick (w : World) (n : Nat) (hn : 0 < n) : ∃ j w', j < n ∧ (choose (.mapNext n)).run P w = .ok j w' ∧ WK B w w' ∧ w'.heap = w.heap := by
  by_cases hf : n ≤ 1
  · exact ⟨0, w, hn, by simp [choose, Sem.run, Question.forced, hf], WK.refl _ _, rfl⟩
  · refine ⟨_, { w with drawn := w.drawn + 1 }, Nat.mod_lt (w.tape w.drawn (.mapNext n)) hn, ?_, ⟨rfl, rfl, rfl, Nat.le_refl _, fun _ _ => rfl⟩, rfl⟩
    simp [choose, Sem.run, Question.forced, hf, Question.cut]

theorem next_sound (hr : HR C B G H w) {it : AV} {isS : Bool} {a : Value} {nx : Nx} {ty : TypeId} (hx : VRel G it a) (h : nextOp H it isS = .ok nx) : NextR C B G H w P (Instr.next a isS ty) nx := by
  unfold nextOp at h
  split at h
  · next r =>
    cases hx with | @ptr _ _ x hx =>
    split at h
    · next s pos hg =>
      obtain ⟨s', hh, hs, hb⟩ := hr.ob r _ x (hr.id_lt hx) hg hx
      have hget := run_getObj (P := P) hh (by simp)
      have hp : (Value.pointer (some ⟨x.b, x.base + 0, none⟩)) = .pointer (some ⟨x.b, 0, none⟩) := by rw [hb]
      rw [hp]
      subst hs
      split at h
      · next b hbp =>
        obtain ⟨hlt, h1⟩ := E.whn_inv h
        simp only [force_eq, Hp.setK_eq] at h1
        cases h1
        rw [nblt_eq, decide_eq_true_iff] at hlt
        have hps : pos < s'.size := by
          have := (List.getElem?_eq_some_iff.1 hbp).1
          rwa [bytesL_size] at this
        have hbv : (s'[pos]'hps).toNat = b := by
          simp only [bytesL, List.getElem?_map] at hbp
          have h2 : s'.data.toList[pos]? = some (s'[pos]'hps) := by
            rw [Array.getElem?_toList, Array.getElem?_eq_getElem hps]; rfl
          rw [h2] at hbp
          simpa using hbp
        have hdec := decode_ascii s' pos hps (by omega)
        obtain ⟨w', g1, g2, g3, _⟩ := obj_write (P := P) hr hg hx rfl hh (by simp) (ob' := .stringIter s' (pos + 1)) (o' := .siter (bytesL s') (Nat.succ pos)) (fun w' hw' => ⟨s', hw', rfl, hb⟩)
        refine .inl ⟨_, _, rfl, .tuple #[.bool true, goInt pos, .int .i32 b], w', G, ?_, Gh.ext_refl _ _, g2, .ofTup (.cons (.bool true) (.cons (.int _ _) (.cons (.int _ _) (.nil G)))), g3, Nat.le_refl _⟩
        simp [Instr.next, hget, hps, hdec, g1, hbv]
      · next hbp =>
        cases h
        have hps : ¬ pos < s'.size := by
          have := List.getElem?_eq_none_iff.1 hbp
          rw [bytesL_size] at this
          omega
        exact .inl ⟨_, _, rfl, .tuple #[.bool false], w, G, by simp [Instr.next, hget, hps], Gh.ext_refl _ _, hr, .ofTup (.cons (.bool false) (.nil G)), WK.refl _ _, Nat.le_refl _⟩
    · next since seen last hg =>
      cases h
      obtain ⟨m', hh, hm, hb⟩ := hr.ob r _ x (hr.id_lt hx) hg hx
      cases hm
      have hget := run_getObj (P := P) hh (by simp)
      have hp : (Value.pointer (some ⟨x.b, x.base + 0, none⟩)) = .pointer (some ⟨x.b, 0, none⟩) := by rw [hb]
      rw [hp]
      exact .inl ⟨_, _, rfl, .tuple #[.bool false], w, G, by simp [Instr.next, hget], Gh.ext_refl _ _, hr, .ofTup (.cons (.bool false) (.nil G)), WK.refl _ _, Nat.le_refl _⟩
    · next m since seen last hg =>
      obtain ⟨m', hh, ⟨y, hy, hm'⟩, hb⟩ := hr.ob r _ x (hr.id_lt hx) hg hx
      cases hm'
      have hp : (Value.pointer (some ⟨x.b, x.base + 0, none⟩)) = .pointer (some ⟨x.b, 0, none⟩) := by rw [hb]
      rw [hp]
      obtain ⟨mp, hmp, h1⟩ := E.b_inv h
      obtain ⟨hun, h2⟩ := E.whn_inv h1
      clear h h1
      obtain ⟨en, hhm, hall⟩ := map_read hr hy hmp
      have hget := run_getObj (P := P) hh (by simp)
      have hgetm := run_getObj (P := P) hhm (by simp)
      have hperm := perms_rel hall since seen
      have htest : (!seen.toArray.isEmpty && !en.isEmpty && en.all (·.born ≥ last)) = false := by
        have e1 : mp.1.isEmpty = en.isEmpty := by
          rw [Bool.eq_iff_iff, List.isEmpty_iff, Array.isEmpty_iff_size_eq_zero, ← List.length_eq_zero_iff, hall.length, Array.length_toList]
        have e2 : (mp.1.all fun e => Nat.ble last e.born) = en.all (·.born ≥ last) := by
          rw [← Array.all_toList]
          exact hall.all fun a b hab => by rw [nble_eq, hab.2.2]
        have e3 : seen.toArray.isEmpty = seen.isEmpty := by cases seen <;> rfl
        rw [e1, e2] at hun
        rw [e3]
        cases hh1 : seen.isEmpty <;> cases hh2 : en.isEmpty <;> simp_all
      have hrun : ∀ (n : Nat), (Instr.next (.pointer (some ⟨x.b, 0, none⟩)) false ty).run P w = (Instr.next (.pointer (some ⟨x.b, 0, none⟩)) false ty).run P w := fun _ => rfl
      simp only at hperm
      have key : ∃ a c w', (a, c) ∈ ((permsNext mp.1 since seen).map fun z => (match z with
            | some e => ((.tup [.bool true, e.key, e.val], H.upd r (.miter (some m) since (seen ++ [e.born]) mp.2)) : AV × Hp)
            | none => (.tup [.bool false], H))) ∧ ∃ u, (Instr.next (.pointer (some ⟨x.b, 0, none⟩)) false ty).run P w = .ok u w' ∧ HR C B G c w' ∧ VRel G a u ∧ WK B w w' ∧ H.nx ≤ c.nx := by
        simp only [Instr.next, Sem.run_bind, hget, hgetm, Result.andThen, htest, Bool.false_eq_true, if_false]
        generalize hcs : ((if (Array.filter (fun e => decide (e.born < since)) (Array.filter (fun e => !seen.toArray.contains e.born) en)).isEmpty = true then #[none] else #[]) ++ Array.map some (Array.filter (fun e => decide (e.born < since)) (Array.filter (fun e => !seen.toArray.contains e.born) en) ++ Array.filter (fun e => decide (e.born ≥ since)) (Array.filter (fun e => !seen.toArray.contains e.born) en)) : Array (Option MapEntry)) = cands at hperm ⊢
        have hlen := hperm.length
        have hpos : 0 < cands.size := by
          rw [← Array.length_toList, ← hlen]
          simp only [permsNext]
          cases hq : ((mp.1.filter fun e => !seen.any (Nat.beq e.born)).filter fun e => Nat.blt e.born since) with
          | nil => simp
          | cons z zs => simp
        obtain ⟨j, w1, hj, hch, hwk, hhp⟩ := run_pick (P := P) (B := B) w cands.size hpos
        have hr1 : HR C B G H w1 := hr.world hhp
        have hj2 : j < (permsNext mp.1 since seen).length := by rw [hlen, Array.length_toList]; exact hj
        obtain ⟨cb, hcb, hrel⟩ := hperm.getR (List.getElem?_eq_getElem hj2)
        have hcb2 : cands[j]? = some cb := by simpa using hcb
        generalize hca : (permsNext mp.1 since seen)[j] = ca at hrel
        have hmem : ca ∈ permsNext mp.1 since seen := by rw [← hca]; exact List.getElem_mem _
        simp only [hch, hcb2, Sem.run_bind, Result.andThen]
        cases ca with
        | none =>
          cases cb with
          | some _ => exact hrel.elim
          | none =>
            exact ⟨_, _, w1, List.mem_map.2 ⟨none, hmem, rfl⟩, .tuple #[.bool false], rfl, hr1, .ofTup (.cons (.bool false) (.nil G)), hwk, Nat.le_refl _⟩
        | some e =>
          cases cb with
          | none => exact hrel.elim
          | some e' =>
            have hrel : EntRel G e e' := hrel
            have hh1 : w1.heap[x.b]? = some (.mapIter (some y.b) since seen.toArray last) := by rw [hhp]; exact hh
            obtain ⟨w', g1, g2, g3, _⟩ := obj_write (P := P) hr1 hg hx rfl hh1 (by simp) (ob' := .mapIter (some y.b) since (seen.toArray.push e'.born) mp.2) (o' := .miter (some m) since (seen ++ [e.born]) mp.2) (fun w' hw' =>
              ⟨_, by rw [hw', hrel.2.2]; simp, ⟨y, hy, rfl⟩, hb⟩)
            refine ⟨_, _, w', List.mem_map.2 ⟨some e, hmem, rfl⟩, .tuple #[.bool true, e'.key, e'.val], ?_, g2, .ofTup (.cons (.bool true) (.cons hrel.1 (.cons hrel.2.1 (.nil G)))), hwk.trans g3, Nat.le_refl _⟩
            simp only [Sem.run_bind, g1, Result.andThen]
            rfl
      obtain ⟨va, c, w', hmem, u, k1, k2, k3, k4, k5⟩ := key
      have hval : ValR C B G H w P (Instr.next (.pointer (some ⟨x.b, 0, none⟩)) false ty) va c := ⟨u, w', G, k1, Gh.ext_refl _ _, k2, k3, k4, k5⟩
      split at h2
      · next hl =>
        cases h2
        rw [hl] at hmem
        simp only [List.map_cons, List.map_nil, List.mem_singleton, Prod.mk.injEq] at hmem
        obtain ⟨rfl, rfl⟩ := hmem
        exact .inl ⟨_, _, rfl, hval⟩
      · next e hl =>
        simp only [forceL_eq, force_eq, Hp.setK_eq] at h2
        cases h2
        rw [hl] at hmem
        simp only [List.map_cons, List.map_nil, List.mem_singleton, Prod.mk.injEq] at hmem
        obtain ⟨rfl, rfl⟩ := hmem
        exact .inl ⟨_, _, rfl, hval⟩
      · cases h2
        simp only [Hp.setK_eq]
        exact .inr ⟨_, rfl, (va, c), hmem, hval⟩
    · exact nomatch h
  · exact nomatch h
theorem entry_sound (hr : HR C B G H w) {it : AV} {a : Value} {v : AV} (hx : VRel G it a) (h : entryOp H it = .ok v) : ∃ u, (Instr.entry a).run P w = .ok u w ∧ VRel G v u := by
  unfold entryOp at h
  split at h
  · next r =>
    cases hx with | @ptr _ _ x hx =>
    split at h
    · next m since seen last hg =>
      obtain ⟨m', hh, ⟨y, hy, hm'⟩, hb⟩ := hr.ob r _ x (hr.id_lt hx) hg hx
      cases hm'
      have hp : (Value.pointer (some ⟨x.b, x.base + 0, none⟩)) = .pointer (some ⟨x.b, 0, none⟩) := by rw [hb]
      rw [hp]
      split at h
      · next st hst =>
        obtain ⟨mp, hmp, h1⟩ := E.b_inv h
        obtain ⟨hck, h2⟩ := E.whn_inv h1
        rw [nbeq_eq, decide_eq_true_iff] at hck
        obtain ⟨en, hhm, hall⟩ := map_read hr hy hmp
        have hget := run_getObj (P := P) hh (by simp)
        have hgetm := run_getObj (P := P) hhm (by simp)
        split at h2
        · next e he =>
          cases h2
          obtain ⟨e', he', hrel⟩ := hall.find (q := fun e => e.born == st) (fun a b hab => by rw [nbeq_eq, hab.2.2, Bool.eq_iff_iff, decide_eq_true_iff, beq_iff_eq]) he
          have hback : seen.toArray.back? = some st := by simpa using hst
          rw [Array.find?_toList] at he'
          refine ⟨.tuple #[e'.key, e'.val], ?_, .ofTup (.cons hrel.1 (.cons hrel.2.1 (.nil G)))⟩
          simp [Instr.entry, hget, hgetm, hst, hck, he']
        · exact nomatch h2
      · exact nomatch h
    · exact nomatch h
  · exact nomatch h
end
end Go.X

/- The interpreter is right, part 15: operands; operations that do not act. -/
namespace Go.X
open Go
section
variable {C : Cx} {B : Nat} {G : Gh} {H : Hp} {w : World} {P : Program} {K : Kn}

/-! ### Temporaries read and written -/
theorem locGet_cons (t i : Nat) (v : AV) (l : List (Nat × AV)) : locGet t ((i, v) :: l) = if i = t then some v else locGet t l := by
  show (Bool.rec (motive := fun _ => Option AV) (locGet t l) (some v) (Nat.beq i t)) = _
  rw [nbeq_eq]
  by_cases h : i = t <;> simp [h]
/-- A temporary's value. -/
noncomputable def rdT (m d t : Nat) (en : XEnv) : AV := if m.testBit t && Nat.blt t (2 ^ d) then (Tr.get (path d t) en.base).getD .bad else (locGet t en.loc).getD .bad
theorem rd_tmp (m d t : Nat) (en : XEnv) : (rd m d (.tmp t)).un en = rdT m d t en := by
  obtain ⟨loc, base⟩ := en
  have e : rd m d (.tmp t) = if m.testBit t && Nat.blt t (2 ^ d) then ⟨fun en => XEnv.rec (motive := fun _ => AV) (fun _ base => Option.rec (motive := fun _ => AV) .bad (fun v => v) (Tr.get (path d t) base)) en⟩
      else ⟨fun en => XEnv.rec (motive := fun _ => AV) (fun loc _ => Option.rec (motive := fun _ => AV) .bad (fun v => v) (locGet t loc)) en⟩ := rfl
  unfold rdT
  by_cases h : (m.testBit t && Nat.blt t (2 ^ d)) = true
  · rw [e, if_pos h, if_pos h]
    show (Option.rec (motive := fun _ => AV) .bad (fun v => v) (Tr.get (path d t) base)) = _
    cases Tr.get (path d t) base <;> rfl
  · rw [e, if_neg h, if_neg h]
    show (Option.rec (motive := fun _ => AV) .bad (fun v => v) (locGet t loc)) = _
    cases locGet t loc <;> rfl
/-- What a write leaves. -/
noncomputable def wrE (m d : Nat) (dst : Option Tmp) (v : AV) (en : XEnv) : XEnv := match dst with
  | some t => if m.testBit t && Nat.blt t (2 ^ d) then ⟨en.loc, Tr.put v (path d t) en.base⟩ else ⟨(t, v) :: en.loc, en.base⟩
  | none => en
theorem wr_eq (R : Type) (m d : Nat) (dst : Option Tmp) (v : AV) (en : XEnv) (k : XEnv → R) : (wr R m d dst).un v en k = k (wrE m d dst v en) := by
  obtain ⟨loc, base⟩ := en
  cases dst with
  | none => rfl
  | some t =>
    unfold wr wrE
    dsimp only
    cases h : (m.testBit t && Nat.blt t (2 ^ d)) with
    | true => simp only [if_true, Tr.putK_eq]
    | false => simp only [Bool.false_eq_true, if_false]
theorem rdT_wrE (m d t : Nat) (dst : Option Tmp) (v : AV) (en : XEnv) : rdT m d t (wrE m d dst v en) = if dst = some t then v else rdT m d t en := by
  cases dst with
  | none => simp [wrE]
  | some u =>
    unfold wrE rdT
    by_cases hu : (m.testBit u && Nat.blt u (2 ^ d)) = true
    · simp only [hu, if_true]
      by_cases ht : (m.testBit t && Nat.blt t (2 ^ d)) = true
      · simp only [ht, if_true]
        rw [Bool.and_eq_true, nblt_eq, decide_eq_true_iff] at hu ht
        rw [get_put_path _ _ hu.2 ht.2]
        by_cases e : u = t <;> simp [e]
      · have e : u ≠ t := fun e => ht (e ▸ hu)
        simp [ht, e]
    · simp only [hu, if_false, Bool.false_eq_true]
      by_cases ht : (m.testBit t && Nat.blt t (2 ^ d)) = true
      · have e : u ≠ t := fun e => hu (e ▸ ht)
        simp [ht, e]
      · simp only [ht, if_false, Bool.false_eq_true, locGet_cons]
        by_cases e : u = t <;> simp [e]

/-- Each temporary holds what is known of it. -/
def TRl (G : Gh) (m d : Nat) (en : XEnv) (tmps : Array Value) : Prop := ∀ t, VRel G (rdT m d t en) (tmps.getD t undef)
theorem ERel.tr {m d : Nat} {en : XEnv} {tmps : Array Value} (h : ERel G m d en tmps) : TRl G m d en tmps := by
  intro t
  unfold rdT
  split
  · next hb =>
    rw [Bool.and_eq_true, nblt_eq, decide_eq_true_iff] at hb
    cases hg : Tr.get (path d t) en.base with
    | none => exact .bad _
    | some a => exact h.2 t hb.1 hb.2 a hg
  · cases hg : locGet t en.loc with
    | none => exact .bad _
    | some a => exact h.1 t a hg
theorem TRl.base {m d : Nat} {en : XEnv} {tmps : Array Value} (h : TRl G m d en tmps) : BRel G m d en.base tmps := by
  intro t h1 h2 a ha
  have := h t
  unfold rdT at this
  rw [h1, show Nat.blt t (2 ^ d) = true by rw [nblt_eq, decide_eq_true_iff]; exact h2] at this
  simpa [ha] using this
theorem BRel.tr {m d : Nat} {base : Tr AV} {tmps : Array Value} (h : BRel G m d base tmps) : TRl G m d ⟨[], base⟩ tmps := ERel.tr ⟨fun t a ha => (by cases ha), h⟩
theorem TRl.mono {G' : Gh} (hle : G.le G') {m d : Nat} {en : XEnv} {tmps : Array Value} (h : TRl G m d en tmps) : TRl G' m d en tmps := fun t => (h t).mono hle
theorem TRl.put {m d : Nat} {en : XEnv} {tmps : Array Value} (h : TRl G m d en tmps) {dst : Option Tmp} {v : AV} {u : Value} (hv : VRel G v u) (hd : ∀ t, dst = some t → t < tmps.size) :
    TRl G m d (wrE m d dst v en) (match (generalizing := false) dst with | some t => tmps.setIfInBounds t u | none => tmps) := by
  intro t
  rw [rdT_wrE]
  cases dst with
  | none => simpa using h t
  | some s =>
    have := hd s rfl
    by_cases e : s = t
    · subst e; simpa [Array.getD_eq_getD_getElem?, Array.getElem?_setIfInBounds, this] using hv
    · simpa [Array.getD_eq_getD_getElem?, Array.getElem?_setIfInBounds, e] using h t

/-- The operands of an operation. -/
def OpR (G : Gh) (m d : Nat) (en : XEnv) (ρ : Operand → Value) (x : Operand) : Prop := VRel G ((rd m d x).un en) (ρ x)
def evalT (tmps : Array Value) : Operand → Value
  | .tmp t => tmps.getD t undef
  | .const v => v
  | .global g => .pointer (some ⟨g, 0, none⟩)
  | .func f => .func (.func f) #[] #[]
theorem eval_eq (fr : Frame) : fr.eval = evalT fr.tmps := by funext x; cases x <;> rfl
theorem rd_sound (hr : HR C B G H w) {m d : Nat} {en : XEnv} {tmps : Array Value} {x : Operand} (h : ∀ t, x = .tmp t → VRel G (rdT m d t en) (tmps.getD t undef)) : OpR G m d en (evalT tmps) x := by
  unfold OpR
  cases x with
  | tmp t => rw [rd_tmp]; exact h t rfl
  | const v => exact ofVal_rel v
  | global g =>
    show VRel G ((if Nat.blt g 2 then (⟨fun _ => .ptr g 0⟩ : Box (XEnv → AV)) else ⟨fun _ => .bad⟩).un en) _
    rw [nblt_eq]
    by_cases hg : g < 2
    · rw [decide_eq_true hg]
      obtain ⟨x, h1, h2, h3⟩ := hr.gl g hg
      have := VRel.ptr (off := 0) h1
      rw [h2, h3] at this
      exact this
    · rw [decide_eq_false hg]; exact .bad _
  | func f => exact .ofFn (.nil G) (.nil G)
theorem rd_tr (hr : HR C B G H w) {m d : Nat} {en : XEnv} {tmps : Array Value} (h : TRl G m d en tmps) (x : Operand) : OpR G m d en (evalT tmps) x := rd_sound hr fun t _ => h t

theorem rdAll_eq (m d : Nat) (xs : List Operand) (en : XEnv) : rdAll m d xs en = xs.map fun x => (rd m d x).un en := by
  induction xs with
  | nil => rfl
  | cons x xs ih => show (rd m d x).un en :: rdAll m d xs en = _; rw [ih]; rfl
theorem rdAll_rel {m d : Nat} {en : XEnv} {ρ : Operand → Value} {xs : List Operand} (h : ∀ x ∈ xs, OpR G m d en ρ x) : VRels G (rdAll m d xs en) (xs.map ρ) := by
  rw [rdAll_eq]
  induction xs with
  | nil => exact .nil G
  | cons x xs ih => exact .cons (h x List.mem_cons_self) (ih fun y hy => h y (List.mem_cons_of_mem _ hy))
theorem parts_rel {m d : Nat} {en : XEnv} {ρ : Operand → Value} {ps : Array (Nat × Operand)} (h : ∀ x ∈ ps.toList.map (·.2), OpR G m d en ρ x) :
    All2 (PartR G) ((ps.toList.map (·.1)).zip (rdAll m d (ps.toList.map (·.2)) en)) (ps.map fun (i, x) => (i, ρ x)).toList := by
  rw [rdAll_eq, Array.toList_map]
  generalize ps.toList = l at h ⊢
  induction l with
  | nil => exact .nil
  | cons p l ih => exact .cons ⟨rfl, h p.2 (by simp)⟩ (ih fun x hx => h x (by simp only [List.map_cons, List.mem_cons]; exact .inr hx))

/-! ### Operations that give a value and leave memory alone -/
def OpVal (G : Gh) (P : Program) (w : World) (s : Sem Next) (v : AV) : Prop := ∃ u, s.run P w = .ok (.value u) w ∧ VRel G v u
theorem OpVal.of {s : Sem Value} {v : AV} (h : ∃ u, s.run P w = .ok u w ∧ VRel G v u) : OpVal G P w (do pure (.value (← s))) v := by
  obtain ⟨u, h1, h2⟩ := h
  exact ⟨u, by simp [h1], h2⟩

theorem field_sound {t : TypeId} {fs : Array Field} {fd : Field} {f : Nat} (ht : P.underlying t = some (.struct fs)) (hf : fs[f]? = some fd) {x v : AV} {a : Value} (h : (match x with | .agg cs => part P fd.type cs fd.offset | _ => .er 115 : E AV) = .ok v) (hx : VRel G x a) : ∃ u, (Instr.field t a f).run P w = .ok u w ∧ VRel G v u := by
  cases x with
  | agg cs =>
    obtain ⟨c, rfl, hc⟩ := hx.agg_inv
    obtain ⟨r, h1, h2⟩ := part_sound (P := P) (w := w) hc h
    exact ⟨r, by simp [Instr.field, run_underlying ht, hf, asAgg, h1], h2⟩
  | _ => exact nomatch h
theorem fieldAddr_sound {t : TypeId} {fs : Array Field} {fd : Field} {f : Nat} {i : TypeInfo} (ht : P.underlying t = some (.struct fs)) (hf : fs[f]? = some fd) (hi : P.info? fd.type = some i) (hs : i.size ≠ 0) {x v : AV} {a : Value} (h : (match x with | .ptr id off => force (off + fd.offset) fun q => .ok (.ptr id q) | _ => .er 114 : E AV) = .ok v) (hx : VRel G x a) : ∃ u, (Instr.fieldAt t a f).run P w = .ok u w ∧ VRel G v u := by
  cases x with
  | ptr id off =>
    simp only [force_eq] at h
    cases h
    cases hx with | @ptr _ _ y hy =>
    have hsz : szOf P fd.type = i.size := by simp [szOf, hi]
    refine ⟨.pointer (some ⟨y.b, y.base + (off + fd.offset), none⟩), ?_, .ptr hy⟩
    simp [Instr.fieldAt, run_underlying ht, hf, Instr.sureAddr, fieldPlace, sz_run hi, hsz, hs, add_none, Nat.add_assoc]
  | _ => exact nomatch h

def OpK.val? : OpK → Option (Hp → XEnv → E AV)
  | .p f => some fun _ => f
  | .r f => some f
  | _ => none
theorem op_p {o : Oper} {m d : Nat} {f : Hp → XEnv → E AV} (h : (opK P K m d o).val? = some f) (hr : HR C B G H w) {en : XEnv} {v : AV} (hf : f H en = .ok v) {ρ : Operand → Value} (hx : ∀ x ∈ o.op.operands.toList, OpR G m d en ρ x) :
    OpVal G P w (execOp ρ o) v := by
  obtain ⟨dst, op, ty, pos, after, guard⟩ := o
  cases op with
  | move x => obtain rfl := Option.some.inj h; cases hf; exact ⟨ρ x, rfl, hx x (by simp [Op.operands])⟩
  | assign x => obtain rfl := Option.some.inj h; cases hf; exact ⟨ρ x, rfl, hx x (by simp [Op.operands])⟩
  | pick c a b =>
    obtain rfl := Option.some.inj h
    have hc : OpR G m d en ρ c := hx c (by simp [Op.operands])
    have ha : OpR G m d en ρ a := hx a (by simp [Op.operands])
    have hb : OpR G m d en ρ b := hx b (by simp [Op.operands])
    unfold OpR at hc ha hb
    have hf : (match (rd m d c).un en with | .bool t => .ok (bif t then (rd m d a).un en else (rd m d b).un en) | _ => .er 110 : E AV) = .ok v := hf
    split at hf
    · next t hq =>
      rw [hq] at hc
      cases hf
      generalize hcv : ρ c = cv at hc
      cases hc
      cases t with
      | true => exact ⟨ρ a, by simp [execOp, hcv, asBool], ha⟩
      | false => exact ⟨ρ b, by simp [execOp, hcv, asBool], hb⟩
    · exact nomatch hf
  | build t ps =>
    obtain rfl := Option.some.inj h
    have hp := parts_rel (m := m) (d := d) (en := en) (ρ := ρ) (ps := ps) (fun x hxx => hx x (by simpa [Op.operands] using hxx))
    exact .of (build_sound hf hp)
  | load t a => obtain rfl := Option.some.inj h; exact .of (load_sound hr hf (hx a (by simp [Op.operands])))
  | nilCheck x =>
    obtain rfl := Option.some.inj h
    have hxx : OpR G m d en ρ x := hx x (by simp [Op.operands])
    unfold OpR at hxx
    have hf : (match (rd m d x).un en with | .ptr a b => .ok (.ptr a b) | _ => .er 111 : E AV) = .ok v := hf
    split at hf
    · next a b hq =>
      rw [hq] at hxx
      cases hf
      generalize hcv : ρ x = cv at hxx
      refine ⟨cv, ?_, hxx⟩
      cases hxx
      simp [execOp, hcv]
    · exact nomatch hf
  | binOp bop t x y yt => obtain rfl := Option.some.inj h; exact .of (bin_sound (yt := yt) hf (hx x (by simp [Op.operands])) (hx y (by simp [Op.operands])))
  | unOp uop t x => obtain rfl := Option.some.inj h; exact .of (unary_sound hf (hx x (by simp [Op.operands])))
  | convert s t x => obtain rfl := Option.some.inj h; exact .of (conv_sound hr hf (hx x (by simp [Op.operands])))
  | makeInterface t x =>
    obtain rfl := Option.some.inj h
    have hf : (match P.underlying t with | some (.interface _) => .er 113 | some _ => .ok (.ifc t ((rd m d x).un en)) | none => .er 113 : E AV) = .ok v := hf
    split at hf
    · exact nomatch hf
    · next u hu hq =>
      cases hf
      refine .of ⟨.iface t (ρ x), ?_, .ifc (hx x (by simp [Op.operands]))⟩
      simp only [Instr.makeInterface, Sem.run_bind, run_underlying hq, Result.andThen]
      rfl
    · exact nomatch hf
  | makeFunc fn a b =>
    obtain rfl := Option.some.inj h
    cases hf
    refine ⟨.func fn (a.map ρ) (b.map ρ), rfl, .ofFn ?_ ?_⟩
    · rw [Array.toList_map]; exact rdAll_rel fun x hxx => hx x (by simp [Op.operands] at hxx ⊢; exact .inl hxx)
    · rw [Array.toList_map]; exact rdAll_rel fun x hxx => hx x (by simp [Op.operands] at hxx ⊢; exact .inr hxx)
  | slice t x lo hi mx =>
    obtain rfl := Option.some.inj h
    have ho : ∀ o : Option Operand, (∀ x, o = some x → OpR G m d en ρ x) → OptR G (o.map fun x => (rd m d x).un en) (o.map ρ) := by
      intro o ho
      cases o with
      | none => trivial
      | some x => exact ho x rfl
    exact .of (slc_sound hr hf (hx x (by simp [Op.operands])) (ho lo fun y e => hx y (by subst e; simp [Op.operands])) (ho hi fun y e => hx y (by subst e; simp [Op.operands])) (ho mx fun y e => hx y (by subst e; simp [Op.operands])))
  | fieldAddr s x fi =>
    have h : (match P.underlying s with
      | some (.struct fs) => match fs[fi]? with
        | some fd => match P.info? fd.type with
          | some i => if i.size = 0 then .no else .p fun en => match (rd m d x).un en with | .ptr id off => force (off + fd.offset) fun q => .ok (.ptr id q) | _ => .er 114
          | none => .no
        | none => .no
      | _ => .no : OpK).val? = some f := h
    split at h
    · next fs hs =>
      split at h
      · next fd hfd =>
        split at h
        · next i hi =>
          split at h
          · cases h
          · next hsz =>
            obtain rfl := Option.some.inj h
            exact .of (fieldAddr_sound hs hfd hi hsz hf (hx x (by simp [Op.operands])))
        · cases h
      · cases h
    · cases h
  | field s x fi =>
    have h : (match P.underlying s with
      | some (.struct fs) => match fs[fi]? with
        | some fd => .p fun en => match (rd m d x).un en with | .agg cs => part P fd.type cs fd.offset | _ => .er 115
        | none => .no
      | _ => .no : OpK).val? = some f := h
    split at h
    · next fs hs =>
      split at h
      · next fd hfd =>
        obtain rfl := Option.some.inj h
        exact .of (field_sound hs hfd hf (hx x (by simp [Op.operands])))
      · cases h
    · cases h
  | indexAddr t x i => obtain rfl := Option.some.inj h; exact .of (idxAddr_sound hf (hx x (by simp [Op.operands])) (hx i (by simp [Op.operands])))
  | index t x i => obtain rfl := Option.some.inj h; exact .of (index_sound hf (hx x (by simp [Op.operands])) (hx i (by simp [Op.operands])))
  | lookup t x i ok => obtain rfl := Option.some.inj h; exact .of (lookup_sound hr hf (hx x (by simp [Op.operands])) (hx i (by simp [Op.operands])))
  | extract t i => obtain rfl := Option.some.inj h; exact .of (extract_sound hf (hx t (by simp [Op.operands])))
  | typeAssert x xt t ok => obtain rfl := Option.some.inj h; exact .of (assert_sound hf (hx x (by simp [Op.operands])))
  | makeMap t r => cases r with | none => cases h | some r => cases h
  | buildSlice t n ps => exact absurd h (by simp only [opK]; split <;> simp [OpK.val?])
  | makeSlice t n ps => exact absurd h (by simp only [opK]; split <;> simp [OpK.val?])
  | mapUpdate t a b c => exact absurd h (by simp only [opK]; split <;> simp [OpK.val?])
  | insert t a b c => exact absurd h (by simp only [opK]; split <;> simp [OpK.val?])
  | mapEntry t a b => exact absurd h (by simp only [opK]; split <;> simp [OpK.val?])
  | call c =>
    obtain ⟨callee, args, ats⟩ := c
    cases callee with
    | value x => cases h
    | invoke x n => cases h
    | builtin b =>
      have hargs : ∀ x ∈ args.toList, OpR G m d en ρ x := fun x hxx => hx x (by simpa [Op.operands, Call.operands] using hxx)
      have hrel := rdAll_rel hargs
      have hlist : (args.map ρ).toList = args.toList.map ρ := Array.toList_map
      cases b with
      | len =>
        have h : (match ats.toList, args.toList with | [t], [x] => .r fun H en => lenB P t H ((rd m d x).un en) | _, _ => .no : OpK).val? = some f := h
        split at h
        · next t x ht hxs =>
          obtain rfl := Option.some.inj h
          have hats : ats = #[t] := Array.toList_inj.1 ht
          have harg : args = #[x] := Array.toList_inj.1 hxs
          subst hats harg
          have em : (#[x] : Array Operand).map ρ = #[ρ x] := by simp
          refine OpVal.of (s := Builtin.len_ #[t] ty ((#[x] : Array Operand).map ρ)) ?_
          rw [em]
          exact lenB_sound hr (ts := #[t]) (by simp) hf (hargs x (by simp))
        · cases h
      | min =>
        obtain rfl := Option.some.inj h
        have hf : (match rdAll m d args.toList en with | [] => .er 122 | x :: r => mmAll false x r : E AV) = .ok v := hf
        split at hf
        · exact nomatch hf
        · next x r hq =>
          rw [hq] at hrel
          obtain ⟨u, us, hu, h1, h2⟩ := hrel.cons_inv
          obtain ⟨z, hz1, hz2⟩ := mmAll_sound (P := P) (w := w) r x v u us hf h1 h2
          refine OpVal.of (s := Builtin.min_ ats ty (args.map ρ)) ⟨z, ?_, hz2⟩
          simp only [Builtin.min_, hlist, hu]
          exact hz1
      | max =>
        obtain rfl := Option.some.inj h
        have hf : (match rdAll m d args.toList en with | [] => .er 122 | x :: r => mmAll true x r : E AV) = .ok v := hf
        split at hf
        · exact nomatch hf
        · next x r hq =>
          rw [hq] at hrel
          obtain ⟨u, us, hu, h1, h2⟩ := hrel.cons_inv
          obtain ⟨z, hz1, hz2⟩ := mmAll_sound (P := P) (w := w) r x v u us hf h1 h2
          refine OpVal.of (s := Builtin.max_ ats ty (args.map ρ)) ⟨z, ?_, hz2⟩
          simp only [Builtin.max_, hlist, hu]
          exact hz1
      | complex =>
        obtain rfl := Option.some.inj h
        have hf : (match rdAll m d args.toList en with | [.flt .f64 a, .flt .f64 b] => .ok (.cpx .f64 a b) | _ => .er 123 : E AV) = .ok v := hf
        split at hf
        · next a b hq =>
          cases hf
          rw [hq] at hrel
          obtain ⟨u, us, hu, h1, h2⟩ := hrel.cons_inv
          obtain ⟨u', us', hu', h1', h2'⟩ := h2.cons_inv
          have := h2'.nil_inv
          subst this
          subst hu'
          cases h1; cases h1'
          have harg : args.map ρ = #[.float .f64 a, .float .f64 b] := Array.toList_inj.1 (hlist.trans hu)
          exact OpVal.of (s := Builtin.complex_ ats ty (args.map ρ)) ⟨_, by rw [harg]; rfl, .cpx _ _ _⟩
        · exact nomatch hf
      | real =>
        obtain rfl := Option.some.inj h
        have hf : (match rdAll m d args.toList en with | [.cpx .f64 a _] => .ok (.flt .f64 a) | _ => .er 123 : E AV) = .ok v := hf
        split at hf
        · next a b hq =>
          cases hf
          rw [hq] at hrel
          obtain ⟨u, us, hu, h1, h2⟩ := hrel.cons_inv
          have := h2.nil_inv
          subst this
          cases h1
          have harg : args.map ρ = #[.complex .f64 a b] := Array.toList_inj.1 (hlist.trans hu)
          exact OpVal.of (s := Builtin.real_ ats ty (args.map ρ)) ⟨_, by rw [harg]; rfl, .flt _ _⟩
        · exact nomatch hf
      | imag =>
        obtain rfl := Option.some.inj h
        have hf : (match rdAll m d args.toList en with | [.cpx .f64 _ b] => .ok (.flt .f64 b) | _ => .er 123 : E AV) = .ok v := hf
        split at hf
        · next a b hq =>
          cases hf
          rw [hq] at hrel
          obtain ⟨u, us, hu, h1, h2⟩ := hrel.cons_inv
          have := h2.nil_inv
          subst this
          cases h1
          have harg : args.map ρ = #[.complex .f64 a b] := Array.toList_inj.1 (hlist.trans hu)
          exact OpVal.of (s := Builtin.imag_ ats ty (args.map ρ)) ⟨_, by rw [harg]; rfl, .flt _ _⟩
        · exact nomatch hf
      | _ => cases h
  | _ => cases h
end
end Go.X

/- The interpreter is right, part 16: operations that make objects; operations that act; calls. -/
namespace Go.X
open Go
section
variable {C : Cx} {B : Nat} {G : Gh} {H : Hp} {w : World} {P : Program} {K : Kn}

def OpK.mk? : OpK → Option (XEnv → E (XObj × (Nat → AV)))
  | .m f => some f
  | _ => none
def OpK.act? : OpK → Option (Hp → XEnv → E Nx)
  | .a f => some f
  | _ => none

/-! ### What makes objects -/
theorem op_m {o : Oper} {m d : Nat} {f : XEnv → E (XObj × (Nat → AV))} (h : (opK P K m d o).mk? = some f) {en : XEnv} {ob : XObj} {g : Nat → AV} (hf : f en = .ok (ob, g)) {ρ : Operand → Value} (hx : ∀ x ∈ o.op.operands.toList, OpR G m d en ρ x) :
    ∃ s : Sem Value, execOp ρ o = (do pure (.value (← s))) ∧ Made C G P s ob g := by
  obtain ⟨dst, op, ty, pos, after, guard⟩ := o
  cases op with
  | alloc t => obtain rfl := Option.some.inj h; exact ⟨_, rfl, alloc_made hf⟩
  | box t x => obtain rfl := Option.some.inj h; exact ⟨_, rfl, box_made (hx x (by simp [Op.operands])) hf⟩
  | buildSlice t len ps =>
    have h : (match P.underlying t with
      | some (.slice e) => .m fun en => (zcells P e).b fun z => E.whn (Nat.blt len 100000 && Nat.blt (len * szOf P e) 100000 && (P.info? e).isSome) 118 ((buildWith (fun i => some (i * szOf P e, szOf P e)) ((ps.toList.map (·.1)).zip (rdAll m d (ps.toList.map (·.2)) en)) (List.replicate len z).flatten).b fun v => match v with
        | .agg cs => (mkArr (some e) true (szOf P e) cs false).b fun ob => .ok (ob, fun id => .sl id 0 len (some len))
        | _ => .er 118)
      | _ => .no : OpK).mk? = some f := h
    split at h
    · next e he =>
      obtain rfl := Option.some.inj h
      have hp := parts_rel (m := m) (d := d) (en := en) (ρ := ρ) (ps := ps) (fun x hxx => hx x (by simpa [Op.operands] using hxx))
      exact ⟨_, rfl, buildSlice_made he hp hf⟩
    · cases h
  | makeSlice t l c =>
    have h : (match P.underlying t with
      | some (.slice e) => .m fun en => (asNat ((rd m d l).un en)).b fun l => (asNat ((rd m d c).un en)).b fun c => (zcells P e).b fun z => E.whn (Nat.ble l c && Nat.blt c 100000 && Nat.blt (c * szOf P e) 100000 && Nat.blt ((((P.info? e).map (·.bytes)).getD 0) * c) 100000000) 119
          ((mkArr (some e) true (szOf P e) (List.replicate c z).flatten false).b fun ob => .ok (ob, fun id => .sl id 0 l (some c)))
      | _ => .no : OpK).mk? = some f := h
    split at h
    · next e he =>
      obtain rfl := Option.some.inj h
      exact ⟨_, rfl, makeSlice_made he (hx l (by simp [Op.operands])) (hx c (by simp [Op.operands])) hf⟩
    · cases h
  | makeMap t r =>
    cases r with
    | some r => cases h
    | none =>
      obtain rfl := Option.some.inj h
      cases hf
      exact ⟨_, rfl, makeMap_made⟩
  | fieldAddr s x fi =>
    exfalso
    have h : (match P.underlying s with
      | some (.struct fs) => match fs[fi]? with
        | some fd => match P.info? fd.type with
          | some i => if i.size = 0 then .no else .p fun en => match (rd m d x).un en with | .ptr id off => force (off + fd.offset) fun q => .ok (.ptr id q) | _ => .er 114
          | none => .no
        | none => .no
      | _ => .no : OpK).mk? = some f := h
    split at h
    · split at h
      · split at h
        · split at h <;> cases h
        · cases h
      · cases h
    · cases h
  | field s x fi =>
    exfalso
    have h : (match P.underlying s with
      | some (.struct fs) => match fs[fi]? with
        | some fd => .p fun en => match (rd m d x).un en with | .agg cs => part P fd.type cs fd.offset | _ => .er 115
        | none => .no
      | _ => .no : OpK).mk? = some f := h
    split at h
    · split at h <;> cases h
    · cases h
  | mapUpdate t a b c => exact absurd h (by simp only [opK]; split <;> simp [OpK.mk?])
  | insert t a b c => exact absurd h (by simp only [opK]; split <;> simp [OpK.mk?])
  | mapEntry t a b => exact absurd h (by simp only [opK]; split <;> simp [OpK.mk?])
  | call c =>
    obtain ⟨callee, args, ats⟩ := c
    exfalso
    cases callee with
    | value x => cases h
    | invoke x n => cases h
    | builtin b =>
      cases b with
      | len =>
        have h : (match ats.toList, args.toList with | [t], [x] => .r fun H en => lenB P t H ((rd m d x).un en) | _, _ => .no : OpK).mk? = some f := h
        split at h <;> cases h
      | _ => cases h
  | _ => cases h

/-! ### What acts -/
def NxVal (C : Cx) (B : Nat) (G : Gh) (H : Hp) (w : World) (P : Program) (s : Sem Next) (v : AV) (H' : Hp) : Prop :=
  ∃ n u w' G', s.run P w = .ok n w' ∧ (n = .value u ∨ (n = .skip ∧ u = undef)) ∧ Gh.ext H.nx G G' ∧ HR C B G' H' w' ∧ VRel G' v u ∧ WK B w w' ∧ H.nx ≤ H'.nx
def NxR (C : Cx) (B : Nat) (G : Gh) (H : Hp) (w : World) (P : Program) (s : Sem Next) : Nx → Prop
  | .val v H' => NxVal C B G H w P s v H'
  | .enter f args H' => H' = H ∧ ∃ us : List Value, s.run P w = .ok (.enter f us.toArray) w ∧ VRels G args us
  | .round l args H' => H' = H ∧ ∃ x, ∃ us : List Value, G l = some x ∧ s.run P w = (Instr.yield x.b us.toArray).run P w ∧ VRels G args us
  | .defer dd H' => H' = H ∧ ∃ d', s.run P w = .ok (.defer d') w ∧ DefRel G dd d'
  | .recover H' => H' = H ∧ s.run P w = .ok .recover w
  | .branch l => ∃ x ∈ l, NxVal C B G H w P s x.1 x.2
theorem NxVal.of {s : Sem Value} {v : AV} {H' : Hp} (h : ValR C B G H w P s v H') : NxVal C B G H w P (do pure (.value (← s))) v H' := by
  obtain ⟨u, w', G', h1, h2⟩ := h
  exact ⟨.value u, u, w', G', by simp [h1], .inl rfl, h2⟩
theorem NxR.ofVal {s : Sem Value} {nx : Nx} (h : ∃ v H', nx = .val v H' ∧ ValR C B G H w P s v H') : NxR C B G H w P (do pure (.value (← s))) nx := by
  obtain ⟨v, H', rfl, h⟩ := h
  exact NxVal.of h
theorem NxR.ofUnit {s : Sem Unit} {nx : Nx} (h : ∃ w' H', nx = .val (.tup []) H' ∧ s.run P w = .ok () w' ∧ HR C B G H' w' ∧ WK B w w' ∧ H'.nx = H.nx) : NxR C B G H w P (do s; pure .skip) nx := by
  obtain ⟨w', H', rfl, h1, h2, h3, h4⟩ := h
  exact ⟨.skip, undef, w', G, by simp [h1], .inr ⟨rfl, rfl⟩, Gh.ext_refl _ _, h2, .ofTup (.nil G), h3, Nat.le_of_eq h4.symm⟩

/-- What is known of a program is so. -/
structure KOK (K : Kn) : Prop where
  fn : ∀ f fn, (K.fn f).un = some fn → K.P.funcs[f]? = some fn
  ext : ∀ f fn, (K.fn f).un = some fn → fn.body = none →
    (fn.name = "internal/abi.NoEscape" → Extern.findNext fn = none ∧ Extern.find fn = some Extern.AbiNoEscape.same) ∧ (fn.name = "internal/bytealg.IndexByteString" → Extern.findNext fn = none ∧ Extern.find fn = some Extern.BytealgIndexByte.indexByte)
  run : ∀ f fn, (K.fn f).un = some fn → fn.body ≠ none → fn.name ≠ "runtime.NumGoroutine"
  mixed : K.P.follows .mixedOrders = true
  code : ∀ f fn c, (K.fn f).un = some fn → fn.body = some c → okCode fn.ntmps c = true

theorem idxByte_spec (c : Int) : ∀ (l : List Nat) (i : Nat), idxByte c l i = match l.findIdx? (fun b : Nat => decide ((b : Int) = c)) with | some j => ((i + j : Nat) : Int) | none => -1
  | [], i => rfl
  | b :: r, i => by
    simp only [idxByte, List.findIdx?_cons]
    have : eqI (Int.ofNat b) c = decide ((b : Int) = c) := eqI_eq _ _
    rw [this]
    cases hb : decide ((b : Int) = c) with
    | true => simp
    | false =>
      simp only [cond_false, Bool.false_eq_true, if_false]
      rw [idxByte_spec c r (Nat.succ i)]
      cases r.findIdx? (fun b : Nat => decide ((b : Int) = c)) with
      | none => rfl
      | some j => simp only [Option.map_some, Nat.succ_eq_add_one]; congr 1; omega

theorem find_range {n : Nat} {p : Nat → Bool} {l : List Nat} {q : Nat → Bool} (hn : l.length = n) (h : ∀ i (hi : i < l.length), p i = q l[i]) : (List.range n).find? p = l.findIdx? q := by
  cases hf : l.findIdx? q with
  | none =>
    rw [List.find?_eq_none]
    intro i hi
    have hi' : i < l.length := by rw [hn]; exact List.mem_range.1 hi
    rw [List.findIdx?_eq_none_iff] at hf
    rw [h i hi', hf _ (List.getElem_mem _)]
    simp
  | some j =>
    rw [List.findIdx?_eq_some_iff_getElem] at hf
    obtain ⟨hj, h1, h2⟩ := hf
    rw [List.find?_range_eq_some]
    refine ⟨by rw [h j hj]; exact h1, List.mem_range.2 (by omega), fun k hk => ?_⟩
    rw [h k (by omega)]
    simpa using h2 k hk
theorem firstIdx_eq (s : ByteArray) (c : Nat) (hc : c < 256) : firstIdx s ((Int.ofNat c).toNat.toUInt8) = idxByte (Int.ofNat c) (bytesL s) 0 := by
  rw [idxByte_spec]
  unfold firstIdx
  rw [find_range (l := bytesL s) (q := fun b : Nat => decide ((b : Int) = Int.ofNat c)) (by rw [bytesL_size]) (fun i hi => by
    have hi' : i < s.size := by rwa [bytesL_size] at hi
    have e : s[i]! = s[i]'hi' := by simp [getElem!_pos, hi']
    have e2 : (bytesL s)[i] = (s[i]'hi').toNat := by simp [bytesL]; rfl
    rw [e, e2, Bool.eq_iff_iff, beq_iff_eq, decide_eq_true_iff, ← UInt8.toNat_inj]
    have : ((Int.ofNat c).toNat.toUInt8).toNat = c := by
      simp
      omega
    rw [this]
    simp only [Int.ofNat_eq_natCast]
    omega)]
  cases (bytesL s).findIdx? (fun b : Nat => decide ((b : Int) = Int.ofNat c)) with
  | none => rfl
  | some j => simp
theorem NxVal.same {s : Sem Next} {v : AV} {u : Value} (hr : HR C B G H w) (h : s.run P w = .ok (.value u) w) (hv : VRel G v u) : NxVal C B G H w P s v H :=
  ⟨.value u, u, w, G, h, .inl rfl, Gh.ext_refl _ _, hr, hv, WK.refl _ _, Nat.le_refl _⟩

theorem callFn_sound (hK : KOK K) (hr : HR C B G H w) {f : FuncId} {args : List AV} {nx : Nx} (h : callFn K H f args = .ok nx) {us : List Value} (ha : VRels G args us) : NxR C B G H w K.P (callFunc f us.toArray) nx := by
  unfold callFn at h
  split at h
  · exact nomatch h
  · next fn hfn =>
    have hf := hK.fn f fn hfn
    split at h
    · next c hc =>
      cases h
      have hng := hK.run f fn hfn (by rw [hc]; simp)
      exact ⟨rfl, us, by simp [callFunc, hf, hc, hng], ha⟩
    · next hc =>
      obtain ⟨e1, e2⟩ := hK.ext f fn hfn hc
      by_cases h1 : (fn.name == "internal/abi.NoEscape") = true
      · rw [h1] at h
        simp only [cond_true] at h
        obtain ⟨a1, a2⟩ := e1 (by simpa using h1)
        split at h
        · next x =>
          cases h
          obtain ⟨u, vs, rfl, hu, hvs⟩ := ha.cons_inv
          have := hvs.nil_inv; subst this
          have hn : fn.name ≠ "runtime.NumGoroutine" := by
            have : fn.name = "internal/abi.NoEscape" := by simpa using h1
            rw [this]; decide
          refine NxVal.same hr ?_ hu
          rw [run_callFunc_extern hf (by simpa using hn) (by rw [hc]; rfl) a1 a2]
          rfl
        · exact nomatch h
      · have h1 : (fn.name == "internal/abi.NoEscape") = false := by simpa using h1
        rw [h1] at h
        simp only [cond_false] at h
        by_cases h2 : (fn.name == "internal/bytealg.IndexByteString") = true
        · rw [h2] at h
          simp only [cond_true] at h
          obtain ⟨a1, a2⟩ := e2 (by simpa using h2)
          split at h
          · next s c =>
            obtain ⟨hlt, h⟩ := E.whn_inv h
            rw [forceI_eq] at h
            cases h
            obtain ⟨u, vs, rfl, hu, hvs⟩ := ha.cons_inv
            obtain ⟨u', vs', rfl, hu', hvs'⟩ := hvs.cons_inv
            have := hvs'.nil_inv; subst this
            cases hu' 
            cases hu with | @str _ b hb =>
            have hn : fn.name ≠ "runtime.NumGoroutine" := by
              have : fn.name = "internal/bytealg.IndexByteString" := by simpa using h2
              rw [this]; decide
            refine NxVal.same hr (u := goInt (idxByte (Int.ofNat c) s 0)) ?_ (.int _ _)
            have hrun := run_callFunc_extern (w := w) hf (by simpa using hn) (by rw [hc]; rfl) a1 a2 [Value.string b, Value.int .u8 (Int.ofNat c)].toArray
            rw [nblt_eq, decide_eq_true_iff] at hlt
            rw [hrun, run_indexByte_string, firstIdx_eq b c hlt, hb]
            rfl
          · exact nomatch h
        · have h2 : (fn.name == "internal/bytealg.IndexByteString") = false := by simpa using h2
          rw [h2] at h
          exact nomatch h

theorem method_sound {n : Nat} {t : TypeId} {v : AV} {name : String} {f : FuncId} {x : AV} (h : method P n t v name = .ok (f, x)) {u : Value} (hv : VRel G v u) (k : Nat) : ∃ r, (Go.method (k + 1) t u name).run P w = .ok (f, r) w ∧ VRel G x r := by
  cases n with
  | zero => exact nomatch (show (E.er 74 : E (FuncId × AV)) = .ok (f, x) from h)
  | succ n =>
    have h : (match P.info? t with
      | none => .er 75
      | some i => match i.methods.find? (·.name == name) with
        | none => .er 76
        | some m => E.whn (Nat.beq m.path.size 0) 77 (match m.func with
          | some (f, pr) => (und P t).b fun u => match u, pr with
            | .pointer _, true => .ok (f, v)
            | .pointer _, false => .er 78
            | _, true => .er 78
            | _, false => .ok (f, v)
          | none => .er 78) : E (FuncId × AV)) = .ok (f, x) := h
    split at h
    · exact nomatch h
    · next i hi =>
      split at h
      · exact nomatch h
      · next m hm =>
        obtain ⟨hp, h⟩ := E.whn_inv h
        rw [nbeq_eq, decide_eq_true_iff] at hp
        have hpath : m.path = #[] := Array.eq_empty_of_size_eq_zero hp
        split at h
        · next f' pr hmf =>
          obtain ⟨td, hu, h⟩ := E.b_inv h
          have hu := und_inv hu
          split at h
          · cases h
            exact ⟨u, by simp [Go.method, typeInfo, hi, hm, hpath, follow, hmf, receiverAt, run_underlying hu, Place.get], hv⟩
          · exact nomatch h
          · exact nomatch h
          · next hnp _ =>
            cases h
            refine ⟨u, ?_, hv⟩
            simp only [Go.method, typeInfo, Sem.run_bind, hpath]
            simp [hi, hm, follow, hmf, receiverAt, run_underlying hu, Place.get, hpath]
        · exact nomatch h

end
end Go.X

/- The interpreter is right, part 17: builtins that act, calls, what acts. -/
namespace Go.X
open Go
section
variable {C : Cx} {B : Nat} {G : Gh} {H : Hp} {w : World} {P : Program} {K : Kn}

theorem sliceData_sound (hr : HR C B G H w) {ts : Array TypeId} {ty : TypeId} {id off len : Nat} {c : Option Nat} {a : Value} (hx : VRel G (.sl id off len c) a) (hl : len ≠ 0) : ValR C B G H w P (Builtin.unsafeSliceData_ ts ty #[a]) (.ptr id off) H := by
  cases hx with | @sl _ _ _ capC o _ y hy hle hm hcc ho hsz =>
  have hc : capC ≠ 0 := by omega
  have ho' : o = y.base + off := ho.resolve_left hc
  refine ⟨_, w, G, Lib.run_unsafeSliceData_row w ts ty ⟨y.b, o, none⟩ len capC hc, Gh.ext_refl _ _, hr, ?_, WK.refl _ _, Nat.le_refl _⟩
  rw [ho']; exact .ptr hy

theorem liesAt_row {e : TypeId} (hc : P.cellsOf e = 1) (count off n : Nat) (hn : off + n ≤ count) : liesAt P P.depth e count off e n = true := by
  have hd : P.depth = (2 * (P.types.size + Made.depth) + 1) + 1 := rfl
  rw [hd]
  simp only [liesAt, Bool.or_eq_true]
  left
  rw [hd]
  simp [rowAt, hc, hn, sameLayout, Nat.mod_one]

theorem freeze_heap (w : World) {b o n : Nat} (hn : n ≠ 0) {c : Array Value} {el : TypeId} (hh : w.heap[b]? = some (.cells c el (0, 0))) :
    ∃ fr, (w.freeze ⟨b, o, none⟩ n).heap[b]? = some (.cells c el fr) ∧ (∀ b', b' ≠ b → (w.freeze ⟨b, o, none⟩ n).heap[b']? = w.heap[b']?) ∧ (w.freeze ⟨b, o, none⟩ n).heap.size = w.heap.size ∧
      (w.freeze ⟨b, o, none⟩ n).os = w.os ∧ (w.freeze ⟨b, o, none⟩ n).tape = w.tape ∧ (w.freeze ⟨b, o, none⟩ n).output = w.output := by
  refine ⟨(o, o + n), ?_, fun b' hb => ?_, ?_, ?_, ?_, ?_⟩ <;> simp [World.freeze, hn, Array.getElem?_modify, hh, Ne.symm, *]

theorem unsafeString_sound (hr : HR C B G H w) {pt it : TypeId} {ts : Array TypeId} {ty u : TypeId} (hts : ts[0]? = some pt) (hp : P.underlying pt = some (.pointer u)) {id off n : Nat} {a len : Value} {k : IntKind} (hx : VRel G (.ptr id off) a) (hl : len = .int k (Int.ofNat n)) (hn : n ≠ 0) (hn2 : n < 1000000000)
    {ar : Arr} (har : H.arr id = .ok ar) (he : ar.e = some u) (hsz : szOf P u = 1) (hro : ar.ro = false) {cs : List AV} (hcs : ar.sub off n = .ok cs) {l : List Nat} (hrd : readBytes cs = .ok l) :
    ValR C B G H w P (Builtin.unsafeString_ ts ty #[a, len]) (.str l) (H.upd id (frozen ar)) := by
  subst hl
  cases hx with | @ptr _ _ y hy =>
  have hob := hr.ob id _ y (hr.id_lt hy) (arr_inv har) hy
  obtain ⟨q1, q2, q3, c, el, fr, q4, q5, q6, q7, q8, q9⟩ := hob
  have := q5 hro
  subst this
  have := q7 u he
  subst this
  obtain ⟨cc, el', fr', hh, hb, hone, hlen, hv⟩ := cells_read hr hy har hcs
  rw [q4] at hh
  cases hh
  have hvr : VRels G cs ((List.range n).map fun j => c.getD (y.base + off + j) undef) := by
    have := VRels.of_fn (f := fun j => c.getD (y.base + off + j) undef) hv
    rwa [hlen] at this
  obtain ⟨bs, hbs, hvs⟩ := readBytes_inv hrd hvr
  have hbl : bs.length = n := by
    have := congrArg List.length hvs
    simpa using this.symm
  have hsub := (sub_inv hcs).1
  have hlb := Lib.run_loadBytes (P := P) w bs ⟨y.b, y.base + off, none⟩ .empty (fun j x hj => by
    have hj' : j < n := by
      have := (List.getElem?_eq_some_iff.1 hj).1
      omega
    rw [add_none, cell_at q4 (hb j hj')]
    have h1 : ((List.range n).map fun j => c.getD (y.base + off + j) undef)[j]? = some (Value.int .u8 x.toNat) := by rw [hvs]; simp [hj]
    simpa [hj'] using h1)
  have hlies := liesAt_row (P := P) (e := el) (by rw [cellsOf_eq]; exact hsz) (c.size / P.cellsOf el) (y.base + off) n (by rw [cellsOf_eq, hsz, Nat.div_one]; omega)
  obtain ⟨fr, f1, f2, f3, f4, f5, f6⟩ := freeze_heap w (o := y.base + off) hn q4
  have hmax : IntKind.i64.max = 9223372036854775807 := rfl
  have h63' : ¬ (9223372036854775807 : Int) < (n : Int) := by omega
  have hneg : ¬ (n : Int) < 0 := by omega
  rw [hbl] at hlb
  have hrun : (Builtin.unsafeString_ ts ty #[.pointer (some ⟨y.b, y.base + off, none⟩), .int k (Int.ofNat n)]).run P w = .ok (.string ⟨(ByteArray.empty).data ++ bs.toArray⟩) (w.freeze ⟨y.b, y.base + off, none⟩ n) := by
    show ((Go.asInt (.int k (Int.ofNat n)) : Sem Int) >>= _).run P w = _
    simp [Go.asInt, asIntOf, hmax, h63', hneg, hn, hts, variablesAt, shape_of q4, elemOf, run_underlying hp, hlies, hlb]
  have hw := hr.write (arr_inv har) hy (show (XObj.arr ar.e ar.ex ar.k ar.d ar.n ar.cs ar.ro).fixed = false from hro) (w' := w.freeze ⟨y.b, y.base + off, none⟩ n) (o' := frozen ar) f3 f2 (by
    obtain ⟨e, ex, kk, d, nn, ccs, ro⟩ := ar
    exact ⟨q1, q2, q3, c, el, fr, f1, (fun h => by cases h), q6, q7, q8, q9⟩)
  refine ⟨_, _, G, hrun, Gh.ext_refl _ _, hw.1, .str ?_, hw.2 f4 f5 f6, Nat.le_refl _⟩
  rw [← hbs]
  simp [bytesL]

theorem builtinX_sound (hr : HR C B G H w) {b : Builtin} {ts : Array TypeId} {ty : TypeId} {cs : Array Bool} {args : List AV} {nx : Nx} (h : builtinX P H b ts args = .ok nx) {us : List Value} (ha : VRels G args us) :
    NxR C B G H w P (builtin b ts ty cs us.toArray) nx := by
  cases b with
  | append =>
    replace h : (match (generalizing := false) ts.toList, args with
      | [t, tx], [s, x] => (und P t).b fun u => match (generalizing := false) u with
        | .slice e => (und P tx).b fun v => match (generalizing := false) v, x with
          | .slice _, .str _ => .er 84
          | .slice _, x => (cellsOf H (szOf P e) x).b fun c => appendTo P H e s c.2 c.1
          | .string, .str l => (cellsOf H (szOf P e) (.str l)).b fun c => appendTo P H e s c.2 c.1
          | _, _ => .er 84
        | _ => .er 84
      | _, _ => .er 84 : E Nx) = .ok nx := h
    split at h
    · next t tx s x hts =>
      have hts : ts = #[t, tx] := Array.toList_inj.1 hts
      subst hts
      obtain ⟨sv, vs, rfl, hs, hvs⟩ := ha.cons_inv
      obtain ⟨xv, vs', rfl, hx, hvs'⟩ := hvs.cons_inv
      have := hvs'.nil_inv; subst this
      obtain ⟨u, hu, h⟩ := E.b_inv h
      have hu := und_inv hu
      split at h
      · next e =>
        obtain ⟨v, hv, h⟩ := E.b_inv h
        have hv := und_inv hv
        split at h
        · exact nomatch h
        · next hns =>
          obtain ⟨c, hc, h⟩ := E.b_inv h
          obtain ⟨n, ys⟩ := c
          obtain ⟨news, n1, n2, n3⟩ := cells_src (P := P) hr hc hx (tx := tx) (.inl ⟨_, hv⟩) (fun _ => ⟨_, hv⟩) (fun ⟨l, hl⟩ => absurd hl (hns _))
          exact .ofVal (append_sound hr hu hs n1 n2 n3 h)
        · next l =>
          obtain ⟨c, hc, h⟩ := E.b_inv h
          obtain ⟨n, ys⟩ := c
          obtain ⟨news, n1, n2, n3⟩ := cells_src (P := P) hr hc hx (tx := tx) (.inr hv) (fun q => by rcases q with q | ⟨_, _, _, _, q⟩ <;> cases q) (fun _ => hv)
          exact .ofVal (append_sound hr hu hs n1 n2 n3 h)
        · exact nomatch h
      · exact nomatch h
    · exact nomatch h
  | copy =>
    replace h : (match (generalizing := false) ts.toList, args with
      | t :: _, [d, s] => (und P t).b fun u => match (generalizing := false) u with
        | .slice e => E.whn (P.info? e).isSome 85 (copyTo P H e d s)
        | _ => .er 85
      | _, _ => .er 85 : E Nx) = .ok nx := h
    split at h
    · next t r d s hts =>
      have hts : ts[0]? = some t := by rw [← Array.getElem?_toList, hts]; rfl
      obtain ⟨dv, vs, rfl, hd, hvs⟩ := ha.cons_inv
      obtain ⟨sv, vs', rfl, hs, hvs'⟩ := hvs.cons_inv
      have := hvs'.nil_inv; subst this
      obtain ⟨u, hu, h⟩ := E.b_inv h
      have hu := und_inv hu
      split at h
      · obtain ⟨hi, h⟩ := E.whn_inv h
        exact .ofVal (copy_sound hr hts hu (info_of hi) hd hs h)
      · exact nomatch h
    · exact nomatch h
  | delete =>
    replace h : (match (generalizing := false) ts.toList, args with
      | t :: _, [.mref id, k] => (und P t).b fun u => match (generalizing := false) u with
        | .map kt _ => (ckey P 5 kt k).b fun _ => ((H.map id).b fun m => (findK P kt k m.1 0).b fun r => match (generalizing := false) r with
          | some (i, _) => forceL (m.1.eraseIdx i) fun es => force m.2 fun c => H.setK id (.map es c) fun H => .ok (.val (.tup []) H)
          | none => .ok (.val (.tup []) H))
        | _ => .er 87
      | _, _ => .er 87 : E Nx) = .ok nx := h
    split at h
    · next t r id k hts =>
      have hts : ts[0]? = some t := by rw [← Array.getElem?_toList, hts]; rfl
      obtain ⟨dv, vs, rfl, hd, hvs⟩ := ha.cons_inv
      obtain ⟨sv, vs', rfl, hs, hvs'⟩ := hvs.cons_inv
      have := hvs'.nil_inv; subst this
      obtain ⟨u, hu, h⟩ := E.b_inv h
      have hu := und_inv hu
      split at h
      · exact .ofVal (delete_sound hr hts hu hd hs h)
      · exact nomatch h
    · exact nomatch h
  | clear =>
    replace h : (match (generalizing := false) ts.toList, args with
      | t :: _, [.mref id] => (und P t).b fun _ => (H.map id).b fun m => force m.2 fun c => H.setK id (.map [] c) fun H => .ok (.val (.tup []) H)
      | _, _ => .er 88 : E Nx) = .ok nx := h
    split at h
    · next t r id hts =>
      have hts : ts[0]? = some t := by rw [← Array.getElem?_toList, hts]; rfl
      obtain ⟨dv, vs, rfl, hd, hvs⟩ := ha.cons_inv
      have := hvs.nil_inv; subst this
      obtain ⟨u, hu, h⟩ := E.b_inv h
      exact .ofVal (clear_sound hr hts (und_inv hu) hd h)
    · exact nomatch h
  | recover => cases h; exact ⟨rfl, rfl⟩
  | unsafeSliceData =>
    replace h : (match (generalizing := false) args with
      | [.sl id off len _] => E.whn (!Nat.beq len 0) 89 (.ok (.val (.ptr id off) H))
      | _ => .er 89 : E Nx) = .ok nx := h
    split at h
    · next id off len c =>
      obtain ⟨h1, h⟩ := E.whn_inv h
      cases h
      obtain ⟨dv, vs, rfl, hd, hvs⟩ := ha.cons_inv
      have := hvs.nil_inv; subst this
      rw [nbeq_eq, Bool.not_eq_true', decide_eq_false_iff_not] at h1
      exact .ofVal ⟨_, _, rfl, sliceData_sound hr hd h1⟩
    · exact nomatch h
  | unsafeString =>
    replace h : (match (generalizing := false) ts.toList, args with
      | pt :: _, [.ptr id off, n] => (asNat n).b fun n => bif Nat.beq n 0 then .ok (.val (.str []) H) else (H.arr id).b fun a => (und P pt).b fun pt => match (generalizing := false) a.e, pt with
        | some t, .pointer u => E.whn (Nat.beq t u && Nat.beq (szOf P u) 1 && Nat.blt n 1000000000 && !a.ro) 90 ((a.sub off n).b fun cs => (readBytes cs).b fun s => H.setK id (frozen a) fun H => .ok (.val (.str s) H))
        | _, _ => .er 90
      | _, _ => .er 90 : E Nx) = .ok nx := h
    split at h
    · next pt r id off nv hts =>
      have hts : ts[0]? = some pt := by rw [← Array.getElem?_toList, hts]; rfl
      obtain ⟨dv, vs, rfl, hd, hvs⟩ := ha.cons_inv
      obtain ⟨sv, vs', rfl, hs, hvs'⟩ := hvs.cons_inv
      have := hvs'.nil_inv; subst this
      obtain ⟨n, hn, h1⟩ := E.b_inv h
      clear h
      obtain ⟨k, rfl⟩ := asNat_inv hn hs
      cases hb : Nat.beq n 0 with
      | true =>
        rw [hb] at h1
        rw [nbeq_eq, decide_eq_true_iff] at hb
        subst hb
        cases h1
        cases hd with | @ptr _ _ y hy =>
        refine .ofVal ⟨_, _, rfl, .string .empty, w, G, ?_, Gh.ext_refl _ _, hr, .str (by rfl), WK.refl _ _, Nat.le_refl _⟩
        have hmax : IntKind.i64.max = 9223372036854775807 := rfl
        show ((Go.asInt (.int k (Int.ofNat 0)) : Sem Int) >>= _).run P w = _
        simp [Go.asInt, asIntOf, hmax, hts]
      | false =>
        rw [hb] at h1
        rw [nbeq_eq, decide_eq_false_iff_not] at hb
        obtain ⟨ar, har, h2⟩ := E.b_inv (show ((H.arr id).b fun a => (und P pt).b fun pt => match (generalizing := false) a.e, pt with
          | some t, .pointer u => E.whn (Nat.beq t u && Nat.beq (szOf P u) 1 && Nat.blt n 1000000000 && !a.ro) 90 ((a.sub off n).b fun cs => (readBytes cs).b fun s => H.setK id (frozen a) fun H => .ok (.val (.str s) H))
          | _, _ => .er 90 : E Nx) = .ok nx from h1)
        clear h1
        obtain ⟨pd, hpd, h3⟩ := E.b_inv h2
        clear h2
        have hpd' := und_inv hpd
        clear hpd
        split at h3
        · next t u he =>
          obtain ⟨hc, h4⟩ := E.whn_inv h3
          simp only [Bool.and_eq_true, nbeq_eq, nblt_eq, decide_eq_true_iff] at hc
          obtain ⟨⟨⟨htu, hsz⟩, hlt⟩, hro⟩ := hc
          subst htu
          obtain ⟨cl, hcl, h5⟩ := E.b_inv h4
          obtain ⟨l, hl, h6⟩ := E.b_inv h5
          rw [Hp.setK_eq] at h6
          cases h6
          exact .ofVal ⟨_, _, rfl, unsafeString_sound hr (it := 0) hts hpd' hd rfl hb hlt har he hsz (by simpa using hro) hcl hl⟩
        · exact nomatch h3
    · exact nomatch h
  | _ => exact nomatch h

theorem NxR.congr {s s' : Sem Next} (e : s.run P w = s'.run P w) {nx : Nx} (h : NxR C B G H w P s nx) : NxR C B G H w P s' nx := by
  cases nx with
  | val v H' => unfold NxR NxVal at *; rw [← e]; exact h
  | enter f args H' => unfold NxR at *; rw [← e]; exact h
  | round l args H' => unfold NxR at *; rw [← e]; exact h
  | defer dd H' => unfold NxR at *; rw [← e]; exact h
  | recover H' => unfold NxR at *; rw [← e]; exact h
  | branch l => unfold NxR NxVal at *; rw [← e]; exact h

/-! ### Calls -/
theorem invoke_sound (hK : KOK K) (hr : HR C B G H w) {t : XTgt} {t' : Target} (ht : TgtRel G t t') {args : List AV} {us : List Value} (ha : VRels G args us) {nx : Nx} (h : invokeT K.P K H t args = .ok nx) : NxR C B G H w K.P (invoke t' us.toArray) nx := by
  cases ht with
  | @fn f cap c hc =>
    cases f with
    | func f =>
      have := callFn_sound hK hr (show callFn K H f (args ++ cap) = .ok nx from h) (ha.append hc)
      have e : (us ++ c.toList).toArray = us.toArray ++ c := by simp
      rw [e] at this
      exact this
    | method name =>
      replace h : (match (generalizing := false) args with
        | .ifc t v :: r => (method K.P 10 t v name).b fun x => callFn K H x.1 (x.2 :: r)
        | _ => .er 92 : E Nx) = .ok nx := h
      split at h
      · next t v r =>
        obtain ⟨u, vs, rfl, hu, hvs⟩ := ha.cons_inv
        obtain ⟨x, hx, h⟩ := E.b_inv h
        obtain ⟨f, xa⟩ := x
        cases hu with | @ifc _ _ v' hv =>
        obtain ⟨r', h1, h2⟩ := method_sound (w := w) hx hv (K.P.types.size + Made.depth - 1)
        have e : K.P.types.size + Made.depth - 1 + 1 = K.P.types.size + Made.depth := by
          have : 0 < Made.depth := by decide
          omega
        rw [e] at h1
        have := callFn_sound hK hr h (VRels.cons h2 hvs)
        refine this.congr ?_
        simp [invoke, callMethod, h1]
      · exact nomatch h
    | _ => exact nomatch h
  | @yld l x hx => cases h; exact ⟨rfl, x, us, hx, rfl, ha⟩
  | builtin b ts ty cs => exact builtinX_sound hr h ha
  | collected hx => exact nomatch h

theorem resolve_sound {m d : Nat} {c : Call} {ty : TypeId} {en : XEnv} {ρ : Operand → Value} (hx : ∀ x ∈ c.operands.toList, OpR G m d en ρ x) {r : XTgt × List AV} (h : resolveT m d c ty en = .ok r) :
    ∃ dd : Deferred, (resolve ρ c ty).run P w = .ok dd w ∧ TgtRel G r.1 dd.target ∧ VRels G r.2 dd.args.toList := by
  obtain ⟨callee, args, ats⟩ := c
  have hargs : VRels G (rdAll m d args.toList en) (args.map ρ).toList := by
    rw [Array.toList_map]
    exact rdAll_rel fun x hxx => hx x (by simp [Call.operands] at hxx ⊢; exact .inr hxx)
  cases callee with
  | builtin b => cases h; exact ⟨_, rfl, .builtin _ _ _ _, hargs⟩
  | invoke rc name =>
    cases h
    refine ⟨_, rfl, .fn (.nil G), ?_⟩
    have : OpR G m d en ρ rc := hx rc (by simp [Call.operands])
    simpa using VRels.cons this hargs
  | value f =>
    have hf : OpR G m d en ρ f := hx f (by simp [Call.operands])
    unfold OpR at hf
    replace h : (match (generalizing := false) (rd m d f).un en with
      | .fn f a b => .ok (.fn f b, a ++ rdAll m d args.toList en)
      | .yld l => .ok (.yld l, rdAll m d args.toList en)
      | _ => .er 96 : E (XTgt × List AV)) = .ok r := h
    split at h
    · next g a b hq =>
      cases h
      rw [hq] at hf
      obtain ⟨fv, cv, he, h1, h2⟩ := hf.fn_inv
      refine ⟨⟨.fn g cv, fv ++ args.map ρ⟩, by simp [resolve, he, Deferred.ofValue], .fn h2, ?_⟩
      simpa using h1.append hargs
    · next l hq =>
      cases h
      rw [hq] at hf
      generalize hfv : ρ f = fv at hf
      cases hf with | yld hx =>
      refine ⟨⟨.fn (.yield _) #[], #[] ++ args.map ρ⟩, by simp [resolve, hfv, Deferred.ofValue], .yld hx, ?_⟩
      simpa using hargs
    · exact nomatch h
end
end Go.X

/- The interpreter is right, part 18: what acts. -/
namespace Go.X
open Go
section
variable {C : Cx} {B : Nat} {G : Gh} {H : Hp} {w : World} {K : Kn}

theorem call_sound (hK : KOK K) (hr : HR C B G H w) {m d : Nat} {c : Call} {ty : TypeId} {en : XEnv} {ρ : Operand → Value} (hx : ∀ x ∈ c.operands.toList, OpR G m d en ρ x) {nx : Nx}
    (h : ((resolveT m d c ty en).b fun r => invokeT K.P K H r.1 r.2) = .ok nx) : NxR C B G H w K.P (do let d ← resolve ρ c ty; invoke d.target d.args) nx := by
  obtain ⟨r, hres, h⟩ := E.b_inv h
  obtain ⟨dd, h1, h2, h3⟩ := resolve_sound (P := K.P) (w := w) hx hres
  exact (invoke_sound hK hr h2 h3 h).congr (by simp [h1])

theorem op_a (hK : KOK K) {o : Oper} {m d : Nat} {f : Hp → XEnv → E Nx} (h : (opK K.P K m d o).act? = some f) (hr : HR C B G H w) {en : XEnv} {nx : Nx} (hf : f H en = .ok nx) {ρ : Operand → Value} (hx : ∀ x ∈ o.op.operands.toList, OpR G m d en ρ x) :
    NxR C B G H w K.P (execOp ρ o) nx := by
  obtain ⟨dst, op, ty, pos, after, guard⟩ := o
  cases op with
  | range t x =>
    obtain rfl := Option.some.inj h
    obtain ⟨r, hr1, hf⟩ := E.b_inv (show ((rangeOp K.P t H ((rd m d x).un en)).b fun r => .ok (.val r.1 r.2) : E Nx) = .ok nx from hf)
    cases hf
    exact .ofVal ⟨_, _, rfl, range_sound hr (hx x (by simp [Op.operands])) hr1⟩
  | store t a x =>
    obtain rfl := Option.some.inj h
    obtain ⟨H', hs, hf⟩ := E.b_inv (show ((store K.P t H ((rd m d a).un en) ((rd m d x).un en)).b fun H => .ok (.val (.tup []) H) : E Nx) = .ok nx from hf)
    cases hf
    obtain ⟨w', h1, h2, h3, h4⟩ := store_sound hr hs (hx a (by simp [Op.operands])) (hx x (by simp [Op.operands]))
    exact .ofUnit ⟨w', H', rfl, h1, h2, h3, h4⟩
  | mapUpdate t mp k x =>
    replace h : (match (generalizing := false) K.P.underlying t with
      | some (.map kt _) => .a fun H en => (fun mv kv xv => mapKV K.P H kt mv kv fun es c r => match r with
        | some (i, e) => E.whn (keyOK kv && e.key.eqb kv) 101 <| forceL (es.set i ⟨kv, xv, e.born⟩) fun es => H.setK (refOf mv) (.map es c) fun H => .ok (.val (.tup []) H)
        | none => force (Nat.succ c) fun c' => forceL (es ++ [⟨kv, xv, c⟩]) fun es => H.setK (refOf mv) (.map es c') fun H => .ok (.val (.tup []) H)) ((rd m d mp).un en) ((rd m d k).un en) ((rd m d x).un en)
      | _ => .no : OpK).act? = some f := h
    split at h
    · next kt et ht =>
      obtain rfl := Option.some.inj h
      exact .ofUnit (mapUpdate_sound hr ht (hx mp (by simp [Op.operands])) (hx k (by simp [Op.operands])) (hx x (by simp [Op.operands])) hf)
    · cases h
  | insert t mp k x =>
    replace h : (match (generalizing := false) K.P.underlying t with
      | some (.map kt _) => .a fun H en => (fun mv kv xv => mapKV K.P H kt mv kv fun es c r => match r with
        | some (i, e) => E.whn (keyOK kv && e.key.eqb kv) 101 <| forceL (es.set i ⟨kv, xv, e.born⟩) fun es => H.setK (refOf mv) (.map es c) fun H => .ok (.val (.tup []) H)
        | none => force (Nat.succ c) fun c' => forceL (es ++ [⟨kv, xv, c⟩]) fun es => H.setK (refOf mv) (.map es c') fun H => .ok (.val (.tup []) H)) ((rd m d mp).un en) ((rd m d k).un en) ((rd m d x).un en)
      | _ => .no : OpK).act? = some f := h
    split at h
    · next kt et ht =>
      obtain rfl := Option.some.inj h
      exact .ofUnit (mapUpdate_sound hr ht (hx mp (by simp [Op.operands])) (hx k (by simp [Op.operands])) (hx x (by simp [Op.operands])) hf)
    · cases h
  | mapEntry t mp k =>
    replace h : (match (generalizing := false) K.P.underlying t with
      | some (.map kt et) => .a fun H en => (fun mv kv => mapKV K.P H kt mv kv fun es c r => match r with
        | some (i, e) => E.whn (keyOK kv && e.key.eqb kv) 101 <| forceL (es.set i ⟨kv, e.val, e.born⟩) fun es => H.setK (refOf mv) (.map es c) fun H => .ok (.val (.tup [e.val, .int .i64 (Int.ofNat e.born)]) H)
        | none => (zval K.P et).b fun z => force (Nat.succ c) fun c' => forceL (es ++ [⟨kv, z, c⟩]) fun es => H.setK (refOf mv) (.map es c') fun H => .ok (.val (.tup [z, .int .i64 (Int.ofNat c)]) H)) ((rd m d mp).un en) ((rd m d k).un en)
      | _ => .no : OpK).act? = some f := h
    split at h
    · next kt et ht =>
      obtain rfl := Option.some.inj h
      exact .ofVal (mapEntry_sound hr ht (hx mp (by simp [Op.operands])) (hx k (by simp [Op.operands])) hf)
    · cases h
  | entryStore t mp s x =>
    obtain rfl := Option.some.inj h
    exact .ofUnit (entryStore_sound hr (hx mp (by simp [Op.operands])) (hx s (by simp [Op.operands])) (hx x (by simp [Op.operands])) hf)
  | next it isS =>
    obtain rfl := Option.some.inj h
    rcases next_sound (P := K.P) (ty := ty) hr (hx it (by simp [Op.operands])) hf with ⟨v, H', rfl, h1⟩ | ⟨l, rfl, x, hl, h1⟩
    · exact NxVal.of h1
    · exact ⟨x, hl, NxVal.of h1⟩
  | entry it =>
    obtain rfl := Option.some.inj h
    obtain ⟨v, hv, hf⟩ := E.b_inv (show ((entryOp H ((rd m d it).un en)).b fun v => .ok (.val v H) : E Nx) = .ok nx from hf)
    cases hf
    obtain ⟨u, h1, h2⟩ := entry_sound (P := K.P) hr (hx it (by simp [Op.operands])) hv
    exact .ofVal ⟨_, _, rfl, u, w, G, h1, Gh.ext_refl _ _, hr, h2, WK.refl _ _, Nat.le_refl _⟩
  | defer c =>
    obtain rfl := Option.some.inj h
    obtain ⟨r, hres, hf⟩ := E.b_inv (show ((resolveT m d c ty en).b fun r => .ok (.defer ⟨r.1, r.2⟩ H) : E Nx) = .ok nx from hf)
    cases hf
    obtain ⟨dd, h1, h2, h3⟩ := resolve_sound (P := K.P) (w := w) (fun x hxx => hx x (by simpa [Op.operands] using hxx)) hres
    exact ⟨rfl, dd, by simp [execOp, h1], h2, h3⟩
  | call c =>
    have hxc : ∀ x ∈ c.operands.toList, OpR G m d en ρ x := fun x hxx => hx x (by simpa [Op.operands] using hxx)
    obtain ⟨callee, args, ats⟩ := c
    cases callee with
    | value x => obtain rfl := Option.some.inj h; exact call_sound hK hr hxc hf
    | invoke x n => obtain rfl := Option.some.inj h; exact call_sound hK hr hxc hf
    | builtin b =>
      cases b with
      | len =>
        exfalso
        replace h : (match (generalizing := false) ats.toList, args.toList with | [t], [x] => .r fun H en => lenB K.P t H ((rd m d x).un en) | _, _ => .no : OpK).act? = some f := h
        split at h <;> cases h
      | min => cases h
      | max => cases h
      | complex => cases h
      | real => cases h
      | imag => cases h
      | _ => obtain rfl := Option.some.inj h; exact call_sound hK hr hxc hf
  | fieldAddr s x fi =>
    exfalso
    replace h : (match (generalizing := false) K.P.underlying s with
      | some (.struct fs) => match fs[fi]? with
        | some fd => match K.P.info? fd.type with
          | some i => if i.size = 0 then .no else .p fun en => match (rd m d x).un en with | .ptr id off => force (off + fd.offset) fun q => .ok (.ptr id q) | _ => .er 114
          | none => .no
        | none => .no
      | _ => .no : OpK).act? = some f := h
    split at h
    · split at h
      · split at h
        · split at h <;> cases h
        · cases h
      · cases h
    · cases h
  | field s x fi =>
    exfalso
    replace h : (match (generalizing := false) K.P.underlying s with
      | some (.struct fs) => match fs[fi]? with
        | some fd => .p fun en => match (rd m d x).un en with | .agg cs => part K.P fd.type cs fd.offset | _ => .er 115
        | none => .no
      | _ => .no : OpK).act? = some f := h
    split at h
    · split at h <;> cases h
    · cases h
  | makeMap t r => cases r <;> cases h
  | buildSlice t n ps => exact absurd h (by simp only [opK]; split <;> simp [OpK.act?])
  | makeSlice t n ps => exact absurd h (by simp only [opK]; split <;> simp [OpK.act?])
  | _ => cases h
end
end Go.X

