/- The interpreter of closed calls, and that it is right (part XC): a run of it that ends well tells what the call in the model gives. Conditions: none. -/
import Derived.Test.YtnbgklfnaagklaaGreatDoorXB
import Derived.MapKept
import Derived.Great.FillDense
import Derived.Great.BuildSlice
import Derived.Laws.MakeOwn
import Derived.Laws.Tables
import Derived.Laws.CopyRow
import Derived.Deep.AppendSrc
import Derived.Deep.Upon
set_option linter.unusedVariables false
set_option linter.unusedSimpArgs false
/- The interpreter is right, part 7: slices, len, keys, lookups, what is built. -/
namespace Go.X
open Go
section
variable {C : Cx} {B : Nat} {G : Gh} {H : Hp} {w : World} {P : Program}

/-- Operands that may be left out. -/
def OptR (G : Gh) : Option AV → Option Value → Prop
  | none, none => True
  | some a, some v => VRel G a v
  | _, _ => False
theorem OptR.map {α : Type} {f : α → AV} {g : α → Value} (h : ∀ x, VRel G (f x) (g x)) : ∀ o : Option α, OptR G (o.map f) (o.map g)
  | none => trivial
  | some x => h x
theorem bnd_inv {o : Option AV} {u : Option Value} {d n : Nat} (h : bnd o d = .ok n) (hr : OptR G o u) : (u = none ∧ n = d) ∨ ∃ k, u = some (.int k (Int.ofNat n)) := by
  cases o with
  | none => cases u with
    | none => cases h; exact .inl ⟨rfl, rfl⟩
    | some v => exact hr.elim
  | some a => cases u with
    | none => exact hr.elim
    | some v =>
      obtain ⟨k, rfl⟩ := asNat_inv (show asNat a = .ok n from h) hr
      exact .inr ⟨k, rfl⟩
theorem run_bound {k : IntKind} {n y : Nat} {code : BoundsCode} (h : n ≤ y) : (Instr.sliceBound (.int k (n : Int)) y code).run P w = .ok n w := by
  have : ((n : Int) ≤ (y : Int)) := by omega
  simp [Instr.sliceBound, asIntOf, h]
theorem run_bounds {isS : Bool} {len cap l h : Nat} {lo hi : Option Value} (hl : (lo = none ∧ l = 0) ∨ ∃ k, lo = some (.int k (Int.ofNat l))) (hh : (hi = none ∧ h = len) ∨ ∃ k, hi = some (.int k (Int.ofNat h)))
    (h1 : l ≤ h) (h2 : h ≤ cap) : (Instr.sliceBounds isS len cap lo hi none).run P w = .ok (l, h, cap) w := by
  rcases hl with ⟨rfl, rfl⟩ | ⟨k, rfl⟩ <;> rcases hh with ⟨rfl, rfl⟩ | ⟨k', rfl⟩ <;> simp [Instr.sliceBounds, run_bound h1, run_bound h2]

theorem bytes_extract (s : ByteArray) (l h : Nat) : bytesL (s.extract l h) = ((bytesL s).take h).drop l := by
  have : (s.extract l h).data.toList = (s.data.toList.take h).drop l := by
    rw [ByteArray.data_extract, Array.toList_extract, List.extract_eq_take_drop, List.drop_take]
  simp [bytesL, this, List.map_drop, List.map_take, List.drop_take]

theorem slc_sound (hr : HR C B G H w) {t : TypeId} {x v : AV} {lo hi mx : Option AV} {a : Value} {lo' hi' mx' : Option Value} (h : slc P t H x lo hi mx = .ok v) (hx : VRel G x a) (hlo : OptR G lo lo') (hhi : OptR G hi hi') (hmx : OptR G mx mx') :
    ∃ u, (Instr.sliceAt t a lo' hi' mx').run P w = .ok u w ∧ VRel G v u := by
  obtain ⟨d, hd, h'⟩ := E.b_inv h
  clear h; have h := h'; clear h'
  have hu := und_inv hd
  split at h
  · next s =>
    cases hx with | @str _ s' hs =>
    split at h
    · cases mx' with
      | some v => exact hmx.elim
      | none =>
      obtain ⟨hh, h1, h'⟩ := E.b_inv h
      clear h; have h := h'; clear h'
      obtain ⟨l, h2, h'⟩ := E.b_inv h
      clear h; have h := h'; clear h'
      obtain ⟨h3, h'⟩ := E.whn_inv h
      clear h; have h := h'; clear h'
      rw [Bool.and_eq_true, nble_eq, nble_eq, decide_eq_true_iff, decide_eq_true_iff] at h3
      rw [forceL_eq] at h; cases h
      subst hs
      rw [lenN_eq, bytesL_size] at h1 h3
      refine ⟨.string (s'.extract l hh), ?_, .str (bytes_extract _ _ _)⟩
      simp [Instr.sliceAt, Instr.slice, run_underlying hu, run_bounds (bnd_inv h2 hlo) (bnd_inv h1 hhi) h3.1 h3.2]
    · exact nomatch h
  · next e id off len cap =>
    obtain ⟨h1, h'⟩ := E.whn_inv h
    clear h; have h := h'; clear h'
    obtain ⟨inf, hinf⟩ := info_of h1
    obtain ⟨ar, har, h'⟩ := E.b_inv h
    clear h; have h := h'; clear h'
    obtain ⟨hk, h'⟩ := E.whn_inv h
    clear h; have h := h'; clear h'
    rw [nbeq_eq, decide_eq_true_iff] at hk
    obtain ⟨l, h2, h'⟩ := E.b_inv h
    clear h; have h := h'; clear h'
    split at h
    · cases mx' with
      | some v => exact hmx.elim
      | none =>
      obtain ⟨hh, h3, h'⟩ := E.b_inv h
      clear h; have h := h'; clear h'
      cases hx with | @sl _ _ _ capC o _ y hy hl hm hc ho hs =>
      obtain ⟨h4, h'⟩ := E.whn_inv h
      clear h; have h := h'; clear h'
      rw [Bool.and_eq_true, nble_eq, nble_eq, decide_eq_true_iff, decide_eq_true_iff] at h4
      obtain ⟨hlh, htop⟩ := h4
      have hcap : hh ≤ capC := by
        cases cap with
        | none => simp at htop; omega
        | some c => have := hc c rfl; simp at htop; omega
      have hyk : y.k = szOf P e := by
        obtain ⟨q, _⟩ := hr.ob id _ y (hr.id_lt hy) (arr_inv har) hy
        rw [q, hk]
      have hrun : (Instr.sliceAt t (.slice (some ⟨y.b, o, none⟩) len capC) lo' hi' none).run P w = .ok (.slice (some (if capC = l then ⟨y.b, o, none⟩ else ⟨y.b, o + l * szOf P e, none⟩)) (hh - l) (capC - l)) w := by
        simp only [Instr.sliceAt, Instr.slice, Sem.run_bind, run_underlying hu, run_bounds (bnd_inv h2 hlo) (bnd_inv h3 hhi) hlh hcap, sz_run hinf, Result.andThen_ok, Sem.run_pure]
        by_cases q : capC = l
        · simp [q]
        · simp [q, add_none]
      refine ⟨_, hrun, ?_⟩
      have hres : v = .sl id (off + (if capC = l then 0 else l * szOf P e)) (hh - l) (cap.map (· - l)) ∨ (cap = none ∧ v = .sl id (off + l * szOf P e) (hh - l) none) := by
        rw [force_eq, force_eq] at h
        cases cap with
        | none =>
          cases h
          exact .inr ⟨rfl, rfl⟩
        | some c =>
          have := hc c rfl
          subst this
          simp only [force_eq] at h
          cases h
          left
          by_cases q : c = l
          · have : eqON (some c) (some l) = true := eqON_iff.2 (by rw [q])
            rw [this]; simp [q]
          · have : eqON (some c) (some l) = false := by
              rw [Bool.eq_false_iff]; intro q2; exact q (by simpa using eqON_iff.1 q2)
            rw [this]; simp [q]
      have e1 : (if capC = l then (⟨y.b, o, none⟩ : Addr) else ⟨y.b, o + l * szOf P e, none⟩) = ⟨y.b, o + (if capC = l then 0 else l * szOf P e), none⟩ := by split <;> simp
      rw [e1]
      have hszl : l * szOf P e + (capC - l) * szOf P e = capC * szOf P e := by rw [← Nat.add_mul]; congr 1; omega
      rcases hres with rfl | ⟨rfl, rfl⟩
      · refine .sl hy (by omega) (by omega) (fun n hn => ?_) ?_ ?_
        · cases cap with
          | none => simp at hn
          | some c => have := hc c rfl; subst this; simpa using hn.symm
        · by_cases q : capC = l
          · left; omega
          · right; simp only [q, if_false]; have := ho.resolve_left (by omega); omega
        · by_cases q : capC = l
          · left; omega
          · right; simp only [q, if_false]
            have := hs.resolve_left (by omega)
            rw [hyk] at this ⊢; omega
      · by_cases q : capC = l
        · refine .sl hy (by omega) (by omega) (fun n hn => by simp at hn) (.inl (by omega)) (.inl (by omega))
        · refine .sl hy (by omega) (by omega) (fun n hn => by simp at hn) ?_ ?_
          · right; simp only [q, if_false]; have := ho.resolve_left (by omega); omega
          · right
            have := hs.resolve_left (by omega)
            rw [hyk] at this ⊢; omega
    · exact nomatch h
  · exact nomatch h

theorem map_inv {id : Nat} {m : List XEnt × Nat} (h : H.map id = .ok m) : H.get id = some (.map m.1 m.2) := by
  unfold Hp.map at h
  split at h
  · next es c hg => cases h; exact hg
  · exact nomatch h
theorem map_read (hr : HR C B G H w) {id : Nat} {x : Blk} (hx : G id = some x) {m : List XEnt × Nat} (h : H.map id = .ok m) : ∃ en, w.heap[x.b]? = some (.map en m.2) ∧ All2 (EntRel G) m.1 en.toList :=
  hr.ob id _ x (hr.id_lt hx) (map_inv h) hx
theorem All2.length {α β : Type} {R : α → β → Prop} {l : List α} {m : List β} (h : All2 R l m) : l.length = m.length := by
  induction h with
  | nil => rfl
  | cons _ _ ih => simp [ih]

theorem goN_sound {n : Nat} {v : AV} (h : goN n = .ok v) : VRel G v (goInt n) := by
  unfold goN at h; rw [force_eq] at h; cases h; exact .int _ _
theorem lenB_sound (hr : HR C B G H w) {ts : Array TypeId} {ty : TypeId} {x v : AV} {a : Value} (ht : 0 < ts.size) (h : lenB P (ts.getD 0 0) H x = .ok v) (hx : VRel G x a) : ∃ u, (Builtin.len_ ts ty #[a]).run P w = .ok u w ∧ VRel G v u := by
  obtain ⟨d, hd, h'⟩ := E.b_inv h
  clear h; have h := h'; clear h'
  have hu := und_inv hd
  have h0 : ts[0]? = some (ts.getD 0 0) := by simp [Array.getD, ht]
  generalize ts.getD 0 0 = t at h hu h0
  split at h
  · next s =>
    cases hx with | @str _ s' hs =>
    subst hs
    rw [lenN_eq, bytesL_size] at h
    exact ⟨_, by simp [Builtin.len_, h0, run_underlying hu], goN_sound h⟩
  · cases hx; exact ⟨_, by simp [Builtin.len_, h0, run_underlying hu], goN_sound h⟩
  · cases hx; exact ⟨_, by simp [Builtin.len_, h0, run_underlying hu], goN_sound h⟩
  · next id =>
    cases hx with | @mref _ x hx =>
    obtain ⟨m, hm, h'⟩ := E.b_inv h
    clear h; have h := h'; clear h'
    obtain ⟨en, h1, h2⟩ := map_read hr hx hm
    rw [lenN_eq, h2.length] at h
    refine ⟨_, ?_, goN_sound h⟩
    simp [Builtin.len_, h0, run_underlying hu, MapKept.run_getObj_map h1]
  · exact nomatch h

/-! ### Keys -/
theorem ckey_sound : ∀ (d : Nat) (t : TypeId) (k : AV) (v : Value) (b : Bool), ckey P d t k = .ok b → VRel G k v → ∀ (emp : Bool) (e : Nat), d ≤ e → (Instr.checkKey emp e t v).run P w = .ok () w
  | 0, t, k, v, b, h, _, _, _, _ => nomatch (show (E.er 48 : E Bool) = .ok b from h)
  | d + 1, t, k, v, b, h0, hk, emp, e, he => by
    obtain ⟨e, rfl⟩ : ∃ e', e = e' + 1 := ⟨e - 1, by omega⟩
    have he' : d ≤ e := by omega
    have ih := ckey_sound d
    obtain ⟨ty, hty, h⟩ := E.b_inv (show (und P t).b _ = .ok b from h0)
    clear h0
    have hu := und_inv hty
    split at h
    · simp [Instr.checkKey, run_underlying hu]
    · simp [Instr.checkKey, run_underlying hu]
    · simp [Instr.checkKey, run_underlying hu]
    · next fs cs =>
      obtain ⟨c, rfl, hc⟩ := hk.agg_inv
      have key : ∀ (l : List Field) (b : Bool), l.foldr (fun f r => bif f.name != "_" then (part P f.type cs f.offset).b fun a => (ckey P d f.type a).b fun _ => r else r) (.ok true) = .ok b →
          (do
            for f in l do
              if f.name ≠ "_" then Instr.checkKey emp e f.type (← Go.part f.type c f.offset) : Sem PUnit).run P w = .ok () w := by
        intro l
        induction l with
        | nil => intro b h; rfl
        | cons f l ihl =>
          intro b h
          simp only [List.foldr_cons] at h
          by_cases hn : f.name = "_"
          · have e1 : (f.name != "_") = false := by simp [hn]
            rw [e1] at h
            have := ihl b h
            simpa [List.forIn_cons, hn] using this
          · have e1 : (f.name != "_") = true := by simp [hn]
            rw [e1] at h
            obtain ⟨a, ha, h'⟩ := E.b_inv h
            obtain ⟨b', hb, h''⟩ := E.b_inv h'
            obtain ⟨u, hu, hau⟩ := part_sound (w := w) hc ha
            have hq := ih _ _ _ _ hb hau emp e he'
            have := ihl b h''
            simpa [List.forIn_cons, hn, hu, hq] using this
      have := key fs.toList b h
      simp only [Instr.checkKey, Sem.run_bind, run_underlying hu, Result.andThen_ok]
      rw [← Array.forIn_toList]
      simp at this
      simp [this]
    · next len el cs =>
      obtain ⟨c, rfl, hc⟩ := hk.agg_inv
      obtain ⟨h1, h'⟩ := E.whn_inv h
      clear h
      obtain ⟨i, hi⟩ := info_of h1
      have key : ∀ (l : List Nat) (b : Bool), l.foldr (fun i r => (part P el cs (i * szOf P el)).b fun a => (ckey P d el a).b fun _ => r) (.ok true) = .ok b →
          (do for i in l do Instr.checkKey emp e el (← Go.part el c (i * (← sizeOf el))) : Sem PUnit).run P w = .ok () w := by
        intro l
        induction l with
        | nil => intro b h; rfl
        | cons f l ihl =>
          intro b h
          simp only [List.foldr_cons] at h
          obtain ⟨a, ha, h'⟩ := E.b_inv h
          obtain ⟨b', hb, h''⟩ := E.b_inv h'
          obtain ⟨u, hu, hau⟩ := part_sound (w := w) hc ha
          have hq := ih _ _ _ _ hb hau emp e he'
          have := ihl b h''
          simpa [List.forIn_cons, sz_run hi, hu, hq] using this
      have := key (List.range len) b h'
      simp only [Instr.checkKey, Sem.run_bind, run_underlying hu, Result.andThen_ok]
      rw [Std.Legacy.Range.forIn_eq_forIn_range']
      simp [List.range_eq_range'] at this
      simp [Std.Legacy.Range.size, this]
    · exact nomatch h

def FRel (G : Gh) (r : Option (Nat × XEnt)) (q : Option (Nat × Value)) (es : List XEnt) (l : List MapEntry) (i : Nat) : Prop :=
  match r, q with
  | none, none => True
  | some (j, e), some (j', v') => j = j' ∧ i ≤ j ∧ ∃ e', l[j - i]? = some e' ∧ es[j - i]? = some e ∧ EntRel G e e' ∧ v' = e'.val
  | _, _ => False
theorem findK_ask {t : TypeId} {k : AV} {kv : Value} (hk : VRel G k kv) : ∀ (es : List XEnt) (l : List MapEntry) (i : Nat) (r : Option (Nat × XEnt)), findK P t k es i = .ok r → All2 (EntRel G) es l →
    ∃ q, (Instr.findAsking t kv l i).run P w = .ok q w ∧ FRel G r q es l i
  | [], l, i, r, h, ha => by
    cases ha
    cases h
    exact ⟨none, rfl, trivial⟩
  | e :: es, l, i, r, h, ha => by
    cases ha with | @cons _ e' _ l' he hl =>
    obtain ⟨b, hb, h'⟩ := E.b_inv (show (eqv P 100 t k e.key).b _ = .ok r from h)
    clear h
    have hq : (Op.equal t kv e'.key).run P w = .ok b w := eqv_sound 100 t k e.key b kv e'.key hb hk he.1 10000 (by decide)
    cases b with
    | true =>
      cases h'
      exact ⟨some (i, e'.val), by simp [Instr.findAsking, hq], rfl, Nat.le_refl _, e', by simp, by simp, he, rfl⟩
    | false =>
      obtain ⟨q, h1, h2⟩ := findK_ask hk es l' (i + 1) r h' hl
      refine ⟨q, by simp [Instr.findAsking, hq, h1], ?_⟩
      cases r with
      | none => cases q with
        | none => trivial
        | some x => exact h2.elim
      | some x => cases q with
        | none => exact h2.elim
        | some y =>
          obtain ⟨j, e1⟩ := x
          obtain ⟨j', v1⟩ := y
          obtain ⟨a1, a2, e2, a3, a4, a5, a6⟩ := h2
          have : j - i = (j - (i + 1)) + 1 := by omega
          exact ⟨a1, by omega, e2, by rw [this]; simpa using a3, by rw [this]; simpa using a4, a5, a6⟩
theorem sameNow_equal {t : TypeId} {d : TypeDesc} (hu : P.underlying t = some d) {a b : Value} {r : Bool} (h : Instr.sameNow d a b = some r) : (Op.equal t a b).run P w = .ok r w := by
  have key : ∀ (m : Nat), m = 9999 → (Op.equalIn (m + 1) t a b).run P w = .ok r w := by
    intro m _
    unfold Instr.sameNow at h
    split at h
    · split at h
      · next e => cases h; subst e; simp [Op.equalIn, run_underlying hu]
      · cases h
    · cases h; simp [Op.equalIn, run_underlying hu]
    · cases h; simp [Op.equalIn, run_underlying hu]
    · cases h
  exact key 9999 rfl
theorem findNow_ask {t : TypeId} {d : TypeDesc} (hu : P.underlying t = some d) {kv : Value} : ∀ (l : List MapEntry) (i : Nat) (q : Option (Nat × Value)), Instr.findNow d kv l i = some q → (Instr.findAsking t kv l i).run P w = .ok q w
  | [], i, q, h => by cases h; rfl
  | e :: l, i, q, h => by
    simp only [Instr.findNow] at h
    split at h
    · next hs => cases h; simp [Instr.findAsking, sameNow_equal hu hs]
    · next hs => simp [Instr.findAsking, sameNow_equal hu hs, findNow_ask hu l (i + 1) q h]
    · cases h
theorem find_sound {t : TypeId} {k : AV} {kv : Value} (hk : VRel G k kv) {es : List XEnt} {l : List MapEntry} {r : Option (Nat × XEnt)} (h : findK P t k es 0 = .ok r) (ha : All2 (EntRel G) es l) (hu : ∃ d, P.underlying t = some d) :
    ∃ q, (Instr.findKey t kv l).run P w = .ok q w ∧ FRel G r q es l 0 := by
  obtain ⟨d, hu⟩ := hu
  obtain ⟨q, h1, h2⟩ := findK_ask (w := w) hk es l 0 r h ha
  cases hn : Instr.findNow d kv l 0 with
  | none => exact ⟨q, by simp [Instr.findKey, run_underlying hu, hn, h1], h2⟩
  | some q' =>
    have := findNow_ask (w := w) hu l 0 q' hn
    rw [h1] at this
    cases this
    exact ⟨q, by simp [Instr.findKey, run_underlying hu, hn], h2⟩
theorem ckey_und {d : Nat} {t : TypeId} {k : AV} {b : Bool} (h : ckey P d t k = .ok b) : ∃ u, P.underlying t = some u := by
  cases d with
  | zero => exact nomatch (show (E.er 48 : E Bool) = .ok b from h)
  | succ d =>
    obtain ⟨u, hu, _⟩ := E.b_inv (show (und P t).b _ = .ok b from h)
    exact ⟨u, und_inv hu⟩

theorem lookup_sound (hr : HR C B G H w) {t : TypeId} {ok : Bool} {x k v : AV} {a kv : Value} (h : lookup P t ok H x k = .ok v) (hx : VRel G x a) (hk : VRel G k kv) : ∃ u, (Instr.lookup t a kv ok).run P w = .ok u w ∧ VRel G v u := by
  obtain ⟨d, hd, h'⟩ := E.b_inv h
  clear h; have h := h'; clear h'
  have hu := und_inv hd
  split at h
  · next kt et =>
    obtain ⟨b, hck, h'⟩ := E.b_inv h
    clear h; have h := h'; clear h'
    obtain ⟨m, hm, h'⟩ := E.b_inv h
    clear h; have h := h'; clear h'
    obtain ⟨r, hf, h'⟩ := E.b_inv h
    clear h; have h := h'; clear h'
    split at hm
    · next id =>
      cases hx with | @mref _ y hy =>
      obtain ⟨en, h1, h2⟩ := map_read hr hy hm
      have hc := ckey_sound (w := w) 5 kt k kv b hck hk en.isEmpty 10000 (by decide)
      obtain ⟨q, h3, h4⟩ := find_sound (w := w) hk hf h2 (ckey_und hck)
      cases r with
      | none => cases q with
        | some y => exact h4.elim
        | none =>
          obtain ⟨z, hz, h'⟩ := E.b_inv h
          obtain ⟨z', h5, h6⟩ := zval_sound (G := G) (w := w) hz
          cases h'
          cases ok with
          | true => exact ⟨.tuple #[z', .bool false], by simp [Instr.lookup, run_underlying hu, MapKept.run_getObj_map h1, hc, h3, h5], .ofTup (.cons h6 (.cons (.bool false) (.nil G)))⟩
          | false => exact ⟨z', by simp [Instr.lookup, run_underlying hu, MapKept.run_getObj_map h1, hc, h3, h5], h6⟩
      | some x => cases q with
        | none => exact h4.elim
        | some y =>
          obtain ⟨j, e⟩ := x
          obtain ⟨j', v'⟩ := y
          obtain ⟨a1, a2, e', a3, a4, a5, rfl⟩ := h4
          cases h
          cases ok with
          | true => exact ⟨.tuple #[e'.val, .bool true], by simp [Instr.lookup, run_underlying hu, MapKept.run_getObj_map h1, hc, h3], .ofTup (.cons a5.2.1 (.cons (.bool true) (.nil G)))⟩
          | false => exact ⟨e'.val, by simp [Instr.lookup, run_underlying hu, MapKept.run_getObj_map h1, hc, h3], a5.2.1⟩
    · exact nomatch hm
  · exact nomatch h
end
end Go.X

/- The interpreter is right, part 8: what is built of parts; new objects. -/
namespace Go.X
open Go
section
variable {C : Cx} {B : Nat} {G : Gh} {H : Hp} {w : World} {P : Program}

def PartR (G : Gh) (x : Nat × AV) (y : Nat × Value) : Prop := x.1 = y.1 ∧ VRel G x.2 y.2

theorem set_cells {c : Array Value} {vs : Array Value} {off : Nat} (h : off + vs.size ≤ c.size) :
    (vs.zipIdx.foldl (fun cs (x : Value × Nat) => cs.setIfInBounds (off + x.2) x.1) c).toList = c.toList.take off ++ vs.toList ++ c.toList.drop (off + vs.size) := by
  have e : vs.zipIdx.foldl (fun cs (x : Value × Nat) => cs.setIfInBounds (off + x.2) x.1) c = (vs.toList.zipIdx 0).foldl (fun cs (p : Value × Nat) => cs.setIfInBounds (off + p.2) p.1) c := by
    rw [← Array.foldl_toList, Array.toList_zipIdx]
  rw [e]
  obtain ⟨h1, h2⟩ := Great.foldl_set off vs.toList 0 c
  apply List.ext_getElem?
  intro k
  have := h2 k
  rw [Array.getElem?_toList, this]
  simp only [Nat.add_zero, Array.length_toList]
  by_cases q1 : k < off
  · rw [if_neg (by omega)]
    rw [List.append_assoc, List.getElem?_append_left (by simp; omega), List.getElem?_take_of_lt q1]
    simp
  · by_cases q2 : k < off + vs.size
    · rw [if_pos (by omega)]
      rw [List.append_assoc, List.getElem?_append_right (by simp; omega), List.getElem?_append_left (by simp; omega)]
      have : min off c.size = off := by omega
      simp [this]
    · rw [if_neg (by omega)]
      rw [List.getElem?_append_right (by simp; omega), List.getElem?_drop]
      simp only [List.length_append, List.length_take, Array.length_toList]
      have : off + vs.size + (k - (min off c.size + vs.size)) = k := by omega
      rw [this]
      simp

theorem buildWith_sound {place place' : Nat → Option (Nat × Nat)} (hp : ∀ i, place i = place' i) : ∀ (ps : List (Nat × AV)) (cs : List AV) (r : AV) (parts : List (Nat × Value)) (c : Array Value), buildWith place ps cs = .ok r → All2 (PartR G) ps parts → VRels G cs c.toList →
    ∃ cs' c', r = .agg cs' ∧ Instr.fill place' c parts = some c' ∧ VRels G cs' c'.toList ∧ cs'.length = cs.length ∧ (cs.all AV.one = true → cs'.all AV.one = true)
  | [], cs, r, parts, c, h, ha, hc => by
    cases ha
    cases h
    exact ⟨cs, c, rfl, rfl, hc, rfl, fun h => h⟩
  | (i, a) :: ps, cs, r, parts, c, h, ha, hc => by
    cases ha with | @cons _ y _ parts hy hps =>
    obtain ⟨i', v⟩ := y
    obtain ⟨rfl, hv⟩ := hy
    simp only [buildWith] at h
    cases hpl : place i with
    | none => rw [hpl] at h; exact nomatch h
    | some p =>
      obtain ⟨off, n⟩ := p
      rw [hpl] at h
      obtain ⟨h1, h2⟩ := E.whn_inv h
      obtain ⟨l, h3, h4⟩ := E.b_inv h2
      rw [nbeq_eq, decide_eq_true_iff, lenN_eq] at h1
      obtain ⟨h5, h6, rfl⟩ := splL_inv h3
      have hvr := hv.cellsR h6
      have hlen : a.cells.length = v.cells.size := by simpa using hvr.1
      have hcl : cs.length = c.size := by simpa using hc.1
      have hset := set_cells (c := c) (vs := v.cells) (off := off) (by omega)
      have hc' : VRels G (cs.take off ++ a.cells ++ cs.drop (off + a.cells.length)) (v.cells.zipIdx.foldl (fun cs (x : Value × Nat) => cs.setIfInBounds (off + x.2) x.1) c).toList := by
        rw [hset]
        have := hc.spl hvr off
        simpa using this
      obtain ⟨cs', c', e1, e2, e3, e4, e5⟩ := buildWith_sound hp ps _ r parts _ h4 hps hc'
      refine ⟨cs', c', e1, ?_, e3, ?_, fun ho => e5 ?_⟩
      · have hq : place' i = some (off, n) := by rw [← hp]; exact hpl
        simp only [Instr.fill, hq]
        rw [if_neg (by simp; omega)]
        exact e2
      · rw [e4]; simp; omega
      · rw [List.all_append, List.all_append, Bool.and_eq_true, Bool.and_eq_true]
        refine ⟨⟨?_, h6⟩, ?_⟩
        · exact List.all_eq_true.2 fun x hx => List.all_eq_true.1 ho x (List.mem_of_mem_take hx)
        · exact List.all_eq_true.2 fun x hx => List.all_eq_true.1 ho x (List.mem_of_mem_drop hx)

theorem build_sound {t : TypeId} {ps : List (Nat × AV)} {parts : Array (Nat × Value)} {v : AV} (h : build P t ps = .ok v) (ha : All2 (PartR G) ps parts.toList) : ∃ u, (Instr.build t parts).run P w = .ok u w ∧ VRel G v u := by
  obtain ⟨zl, hz, h⟩ := E.b_inv h
  obtain ⟨i, z, hi, hzi, hzr, _, _, hsz⟩ := zcells_inv (G := G) hz
  obtain ⟨d, hd, h'⟩ := E.b_inv h
  have hu := und_inv hd
  split at h'
  · next fs =>
    obtain ⟨h1, h2⟩ := E.whn_inv h'
    have hpl : ∀ (l : List Field), (l.all fun f => (P.info? f.type).isSome) = true → l.mapM (fun f => (P.info? f.type).map fun i => (f.offset, i.size)) = some (l.map fun f => (f.offset, szOf P f.type)) := by
      intro l
      induction l with
      | nil => intro _; rfl
      | cons f l ih =>
        intro hl
        rw [List.all_cons, Bool.and_eq_true] at hl
        obtain ⟨j, hj⟩ := info_of hl.1
        simp [List.mapM_cons, hj, ih hl.2, szOf]
    have hpl := hpl fs.toList h1
    obtain ⟨cs', c', rfl, e2, e3, _⟩ := buildWith_sound (place' := fun i => ((fs.toList.map fun f => (f.offset, szOf P f.type)).toArray)[i]?) (fun i => by
      cases hf : fs[i]? with
      | none => simp [hf]
      | some f => simp [hf]) ps zl v parts.toList z.cells h2 ha hzr
    refine ⟨.agg c', run_build w t parts c' ?_, .ofAgg e3⟩
    simp only [Program.built, hi, hu, hzi, hpl]
    exact e2
  · next n e =>
    obtain ⟨h1, h2⟩ := E.whn_inv h'
    obtain ⟨j, hj⟩ := info_of h1
    obtain ⟨cs', c', rfl, e2, e3, _⟩ := buildWith_sound (place' := fun i => some (i * j.size, j.size)) (fun i => by simp [szOf, hj]) ps zl v parts.toList z.cells h2 ha hzr
    refine ⟨.agg c', run_build w t parts c' ?_, .ofAgg e3⟩
    simp only [Program.built, hi, hu, hzi, hj]
    exact e2
  · exact nomatch h'
end
end Go.X

/- The interpreter is right, part 9: new objects. -/
namespace Go.X
open Go
section
variable {C : Cx} {B : Nat} {G : Gh} {H : Hp} {w : World} {P : Program}

theorem flatten_get {α : Type} (e : Nat) : ∀ (xs : List (List α)), (∀ x ∈ xs, x.length = e) → ∀ i j, j < e → xs.flatten[i * e + j]? = (xs[i]?).bind fun x => x[j]?
  | [], _, i, j, _ => by simp
  | x :: xs, h, i, j, hj => by
    have hx := h x List.mem_cons_self
    have ih := flatten_get e xs (fun y hy => h y (List.mem_cons_of_mem _ hy))
    cases i with
    | zero => simp only [Nat.zero_mul, Nat.zero_add, List.flatten_cons, List.getElem?_cons_zero, Option.bind_some]; rw [List.getElem?_append_left (by omega)]
    | succ i =>
      simp only [List.flatten_cons, List.getElem?_cons_succ]
      rw [List.getElem?_append_right (by rw [hx, Nat.add_mul]; omega), ← ih i j hj]
      congr 1
      rw [hx, Nat.add_mul]; omega
theorem flatten_rep_len {α : Type} (l : List α) (n : Nat) : (List.replicate n l).flatten.length = n * l.length := by simp
theorem made_list (z : Array Value) (n : Nat) : (madeCells z (n * z.size)).toList = (List.replicate n z.toList).flatten := by
  apply List.ext_getElem?
  intro k
  by_cases hk : k < n * z.size
  · have hz : 0 < z.size := by
      rcases Nat.eq_zero_or_pos z.size with q | q
      · rw [q] at hk; simp at hk
      · exact q
    have hd : k / z.size < n := (Nat.div_lt_iff_lt_mul hz).2 hk
    have e : k = k / z.size * z.size + k % z.size := by rw [Nat.mul_comm]; exact (Nat.div_add_mod k z.size).symm
    have hf := flatten_get z.size (List.replicate n z.toList) (fun x hx => by rw [List.eq_of_mem_replicate hx]; simp) (k / z.size) (k % z.size) (Nat.mod_lt _ hz)
    rw [← e] at hf
    rw [hf]
    simp [madeCells, hk, hd, List.getElem?_replicate, Nat.mod_lt _ hz]
  · rw [List.getElem?_eq_none (by simp [size_madeCells]; omega), List.getElem?_eq_none (by simp; omega)]

/-! ### Objects -/
theorem mkArr_inv {e : Option TypeId} {ex : Bool} {k : Nat} {cs : List AV} {ro : Bool} {o : XObj} (h : mkArr e ex k cs ro = .ok o) :
    ∃ d, o = .arr e ex k d cs.length (putT d cs 0 .e) ro ∧ cs.all AV.one = true ∧ cs.length ≤ 2 ^ d := by
  unfold mkArr at h
  simp only [force_eq] at h
  obtain ⟨h1, h2⟩ := E.whn_inv h
  obtain ⟨h3, h4⟩ := E.whn_inv h2
  rw [allOne_eq] at h1
  rw [nble_eq, decide_eq_true_iff, lenN_eq] at h3
  rw [putCs_eq] at h4
  cases h4
  refine ⟨bitsFor (lenN cs), ?_, h1, ?_⟩
  · rw [lenN_eq]; rfl
  · rw [lenN_eq]; exact h3
theorem arr_rel {x : Blk} {e : Option TypeId} {ex : Bool} {k d : Nat} {cs : List AV} {ro : Bool} {c : Array Value} {el : TypeId} {fr : Nat × Nat} (hk : x.k = k) (hd : cs.length ≤ 2 ^ d) (h1 : cs.all AV.one = true) (hh : w.heap[x.b]? = some (.cells c el fr))
    (hfr : ro = false → fr = (0, 0)) (hsz : x.base + x.sz ≤ c.size) (hn : cs.length ≤ x.sz) (he : ∀ t, e = some t → el = t) (hex : ex = true → x.base = 0 ∧ c.size = cs.length)
    (hv : ∀ j (h : j < cs.length), VRel G cs[j] (c.getD (x.base + j) undef)) : ORel C G w x (.arr e ex k d cs.length (putT d cs 0 .e) ro) := by
  refine ⟨hk, hd, hn, c, el, fr, hh, hfr, hsz, he, hex, fun j hj => ?_⟩
  refine ⟨cs[j], ?_, List.all_eq_true.1 h1 _ (List.getElem_mem _), hv j hj⟩
  rw [get_putT _ _ _ _ (by omega) (by omega), if_pos (by omega)]
  simp [hj]

/-- What makes an object; g: how its name makes the value. -/
def Made (C : Cx) (G : Gh) (P : Program) (s : Sem Value) (o : XObj) (g : Nat → AV) : Prop :=
  ∀ w : World, ∃ ob u k sz, s.run P w = .ok u (w.alloc ob) ∧ ∀ (G' : Gh) (id : Nat), G.le G' → G' id = some ⟨w.heap.size, 0, k, sz⟩ → VRel G' (g id) u ∧ ORel C G' (w.alloc ob) ⟨w.heap.size, 0, k, sz⟩ o

theorem Made.cells {s : Sem Value} {e : TypeId} {ex : Bool} {k : Nat} {cs : List AV} {o : XObj} {g : Nat → AV} {c : Array Value} (h : mkArr (some e) ex k cs false = .ok o) (hc : VRels G cs c.toList) (u : Nat → Value)
    (hs : ∀ w : World, s.run P w = .ok (u w.heap.size) (w.alloc (.cells c e)))
    (hg : ∀ (G' : Gh) (id b : Nat), G' id = some ⟨b, 0, k, c.size⟩ → VRel G' (g id) (u b)) : Made C G P s o g := by
  intro w
  obtain ⟨d, rfl, h1, h2⟩ := mkArr_inv h
  have hl : cs.length = c.size := by simpa using hc.1
  refine ⟨.cells c e, u w.heap.size, k, c.size, hs w, fun G' id hle hid => ⟨hg G' id _ hid, ?_⟩⟩
  refine arr_rel rfl h2 h1 (c := c) (el := e) (fr := (0, 0)) ?_ (fun _ => rfl) (by simp) (by simp [hl]) (fun t ht => by cases ht; rfl) (fun _ => ⟨rfl, hl.symm⟩) (fun j hj => ?_)
  · exact heap_push_new
  · have := (hc.2 j hj).mono hle
    simpa [Array.getD_eq_getD_getElem?, List.getD_eq_getElem?_getD] using this

theorem alloc_made {t : TypeId} {o : XObj} {g : Nat → AV} (h : ((zcells P t).b fun z => (mkArr (some t) true (lenN z) z false).b fun ob => .ok (ob, fun id => AV.ptr id 0) : E (XObj × (Nat → AV))) = .ok (o, g)) :
    Made C G P (Instr.alloc t true (.tuple #[])) o g := by
  obtain ⟨zl, hz, h⟩ := E.b_inv h
  obtain ⟨i, z, hi, hzi, hzr, _, _, hsz⟩ := zcells_inv (G := G) hz
  obtain ⟨ob, hob, h⟩ := E.b_inv h
  cases h
  refine Made.cells hob hzr (fun b => .pointer (some ⟨b, 0, none⟩)) (fun w => ?_) (fun G' id b hid => ?_)
  · simp [Instr.alloc, zeroValue, typeInfo, hi, hzi, newVar, newRow]
  · exact .ptr hid
theorem box_made {t : TypeId} {x : AV} {v : Value} {o : XObj} {g : Nat → AV} (hx : VRel G x v)
    (h : ((fun cs => E.whn (Nat.beq (lenN cs) (szOf P t) && (P.info? t).isSome) 117 ((mkArr (some t) true (lenN cs) cs false).b fun ob => .ok (ob, fun id => AV.ptr id 0))) x.cells : E (XObj × (Nat → AV))) = .ok (o, g)) :
    Made C G P (Instr.box t v) o g := by
  obtain ⟨_, h⟩ := E.whn_inv h
  obtain ⟨ob, hob, h⟩ := E.b_inv h
  cases h
  obtain ⟨_, _, h1, _⟩ := mkArr_inv hob
  refine Made.cells hob (hx.cellsR h1) (fun b => .pointer (some ⟨b, 0, none⟩)) (fun w => ?_) (fun G' id b hid => ?_)
  · simp [Instr.box, newVar, newRow]
  · exact .ptr hid
theorem makeMap_made {t : TypeId} : Made C G P (Instr.makeMap t none) (.map [] 0) (fun id => .mref id) := by
  intro w
  refine ⟨.map #[] 0, .map (some w.heap.size), 0, 0, by simp [Instr.makeMap], fun G' id hle hid => ⟨.mref hid, #[], heap_push_new, .nil⟩⟩
theorem makeSlice_made {t e : TypeId} (ht : P.underlying t = some (.slice e)) {l c : AV} {lv cv : Value} (hl : VRel G l lv) (hc : VRel G c cv) {o : XObj} {g : Nat → AV}
    (h : ((asNat l).b fun l => (asNat c).b fun c => (zcells P e).b fun z => E.whn (Nat.ble l c && Nat.blt c 100000 && Nat.blt (c * szOf P e) 100000 && Nat.blt ((((P.info? e).map (·.bytes)).getD 0) * c) 100000000) 119
        ((mkArr (some e) true (szOf P e) (List.replicate c z).flatten false).b fun ob => .ok (ob, fun id => AV.sl id 0 l (some c))) : E (XObj × (Nat → AV))) = .ok (o, g)) :
    Made C G P (Instr.makeSlice t lv cv) o g := by
  obtain ⟨ln, hln, h⟩ := E.b_inv h
  obtain ⟨kl, rfl⟩ := asNat_inv hln hl
  obtain ⟨cn, hcn, h⟩ := E.b_inv h
  obtain ⟨kc, rfl⟩ := asNat_inv hcn hc
  obtain ⟨zl, hz, h⟩ := E.b_inv h
  obtain ⟨i, z, hi, hzi, hzr, _, _, hsz⟩ := zcells_inv (G := G) hz
  obtain ⟨h1, h⟩ := E.whn_inv h
  obtain ⟨ob, hob, h⟩ := E.b_inv h
  cases h
  rw [Bool.and_eq_true, Bool.and_eq_true, Bool.and_eq_true, nble_eq, nblt_eq, nblt_eq, nblt_eq, decide_eq_true_iff, decide_eq_true_iff, decide_eq_true_iff, decide_eq_true_iff] at h1
  obtain ⟨⟨⟨h1, h0⟩, h2⟩, h3⟩ := h1
  have hszP : szOf P e = i.size := by simp [szOf, hi]
  rw [hszP] at h2 hob
  rw [hi] at h3
  simp only [Option.map_some, Option.getD_some] at h3
  have hm : VRels G (List.replicate cn zl).flatten (madeCells z.cells (cn * i.size)).toList := by
    rw [← hsz, made_list]
    exact hzr.replicate cn
  have hbig : cn ≤ maxLen := by unfold maxLen; omega
  refine Made.cells hob hm (fun b => .slice (some ⟨b, 0, none⟩) ln cn) (fun w => ?_) (fun G' id b hid => ?_)
  · have := run_make (P := P) w t e i z ht hi hzi kl kc (ln : Int) (cn : Int) (by omega) (by omega) (by have : ((i.bytes * cn : Nat) : Int) < 100000000 := by omega
                                                                                                        rw [Int.natCast_mul] at this; omega) (by omega)
    simpa using this
  · have := size_madeCells z.cells (cn * i.size)
    exact .sl hid h1 hbig (fun n hn => by cases hn; rfl) (.inr rfl) (.inr (by simp [this]))
theorem buildSlice_made {t e : TypeId} (ht : P.underlying t = some (.slice e)) {len : Nat} {ps : List (Nat × AV)} {parts : Array (Nat × Value)} (ha : All2 (PartR G) ps parts.toList) {o : XObj} {g : Nat → AV}
    (h : ((zcells P e).b fun z => E.whn (Nat.blt len 100000 && Nat.blt (len * szOf P e) 100000 && (P.info? e).isSome) 118 ((buildWith (fun i => some (i * szOf P e, szOf P e)) ps (List.replicate len z).flatten).b fun v => match v with
      | .agg cs => (mkArr (some e) true (szOf P e) cs false).b fun ob => .ok (ob, fun id => AV.sl id 0 len (some len))
      | _ => .er 118) : E (XObj × (Nat → AV))) = .ok (o, g)) : Made C G P (Instr.buildSlice t len parts) o g := by
  obtain ⟨zl, hz, h⟩ := E.b_inv h
  obtain ⟨i, z, hi, hzi, hzr, _, _, hsz⟩ := zcells_inv (G := G) hz
  obtain ⟨h1, h⟩ := E.whn_inv h
  obtain ⟨v, hv, h⟩ := E.b_inv h
  rw [Bool.and_eq_true, Bool.and_eq_true, nblt_eq, nblt_eq, decide_eq_true_iff, decide_eq_true_iff] at h1
  have hszP : szOf P e = i.size := by simp [szOf, hi]
  rw [hszP] at h1
  have hm : VRels G (List.replicate len zl).flatten (madeCells z.cells (len * i.size)).toList := by
    rw [← hsz, made_list]
    exact hzr.replicate len
  obtain ⟨cs', c', rfl, e2, e3, e4, _⟩ := buildWith_sound (place' := fun j => some (j * i.size, i.size)) (fun j => by rw [hszP]) ps _ v parts.toList _ hv ha hm
  obtain ⟨ob, hob, h⟩ := E.b_inv h
  cases h
  have hc : c'.size = len * i.size := by
    have h2 : cs'.length = c'.size := by simpa using e3.1
    rw [← h2, e4]
    have := hm.1
    rw [this]; simp [size_madeCells]
  refine Made.cells hob e3 (fun b => .slice (some ⟨b, 0, none⟩) len len) (fun w => ?_) (fun G' id b hid => ?_)
  · by_cases h0 : len * i.size = 0
    · have e0 : madeCells z.cells (len * i.size) = #[] := Array.eq_empty_of_size_eq_zero (by simp [size_madeCells, h0])
      have e1 : ∀ f : Nat → Value, Array.map f (Array.range 0) = #[] := fun _ => by simp [Array.range]
      rw [e0] at e2
      simp [Instr.buildSlice, run_underlying ht, sizeOf, typeInfo, hi, h0, e1, e2, newRow]
    · exact run_buildSlice w t e len parts c' i z ht hi hzi (by omega) h0 e2
  · exact .sl hid (Nat.le_refl _) (by unfold maxLen; omega) (fun n hn => by cases hn; rfl) (.inr rfl) (.inr (by rw [hszP, hc]; simp))
end
end Go.X

/- The interpreter is right, part 10: conversions, the least and the greatest, fields. -/
namespace Go.X
open Go
section
variable {C : Cx} {B : Nat} {G : Gh} {H : Hp} {w : World} {P : Program}

theorem mm_sound {isMax : Bool} {x y v : AV} {a b : Value} (h : mm isMax x y = .ok v) (hx : VRel G x a) (hy : VRel G y b) : ∃ u, ((if isMax then Builtin.max2 a b else Builtin.min2 a b)).run P w = .ok u w ∧ VRel G v u := by
  unfold mm at h
  split at h
  · next k m k' n =>
    cases hx; cases hy
    have := okI_inv h; subst this
    cases isMax with
    | true =>
      refine ⟨.int k (if n > m then n else m), by simp [Builtin.max2], ?_⟩
      simp only [cond_true, ltI_eq]
      by_cases q : m < n
      · simp only [q, decide_true, cond_true, gt_iff_lt, if_true]; exact .int _ _
      · simp only [q, decide_false, cond_false, gt_iff_lt, if_false]; exact .int _ _
    | false =>
      refine ⟨.int k (if n < m then n else m), by simp [Builtin.min2], ?_⟩
      simp only [cond_false, ltI_eq]
      by_cases q : n < m
      · simp only [q, decide_true, cond_true, if_true]; exact .int _ _
      · simp only [q, decide_false, cond_false, if_false]; exact .int _ _
  · exact nomatch h
theorem mmAll_sound {isMax : Bool} : ∀ (l : List AV) (x v : AV) (a : Value) (us : List Value), mmAll isMax x l = .ok v → VRel G x a → VRels G l us → ∃ u, (us.foldlM (if isMax then Builtin.max2 else Builtin.min2) a).run P w = .ok u w ∧ VRel G v u
  | [], x, v, a, us, h, hx, hl => by
    have := hl.nil_inv; subst this
    cases h
    exact ⟨a, rfl, hx⟩
  | y :: l, x, v, a, us, h, hx, hl => by
    obtain ⟨b, us', rfl, hy, hl'⟩ := hl.cons_inv
    obtain ⟨z, hz, h⟩ := E.b_inv h
    obtain ⟨u, hu, hzu⟩ := mm_sound (w := w) (P := P) hz hx hy
    obtain ⟨u', hu', hvu⟩ := mmAll_sound l z v u us' h hzu hl'
    refine ⟨u', ?_, hvu⟩
    rw [List.foldlM_cons]
    cases isMax <;> simp_all

/-! ### Bytes -/
theorem readBytes_inv : ∀ {cs : List AV} {l : List Nat} {vs : List Value}, readBytes cs = .ok l → VRels G cs vs → ∃ bs : List UInt8, bs.map UInt8.toNat = l ∧ vs = bs.map fun b => Value.int .u8 b.toNat
  | [], l, vs, h, hv => by
    have := hv.nil_inv; subst this
    cases h
    exact ⟨[], rfl, rfl⟩
  | c :: cs, l, vs, h, hv => by
    obtain ⟨v, us, rfl, h1, h2⟩ := hv.cons_inv
    unfold readBytes at h
    split at h
    · exact nomatch (‹_ :: _ = []›)
    · next n r e =>
      cases e
      obtain ⟨h3, h4⟩ := E.whn_inv h
      obtain ⟨l', h5, h6⟩ := E.b_inv h4
      cases h6
      rw [nblt_eq, decide_eq_true_iff] at h3
      obtain ⟨bs, e1, e2⟩ := readBytes_inv h5 h2
      cases h1
      refine ⟨UInt8.ofNat n :: bs, ?_, ?_⟩
      · simp [e1]; omega
      · rw [e2]
        simp
        omega
    · exact nomatch h

theorem shape_of {b : Nat} {c : Array Value} {e : TypeId} {fr : Nat × Nat} (h : w.heap[b]? = some (.cells c e fr)) : w.shape? b = some (e, c.size) := by
  simp [World.shape?, h]
theorem conv_sound (hr : HR C B G H w) {s d : TypeId} {x v : AV} {a : Value} (h : conv P H s d x = .ok v) (hx : VRel G x a) : ∃ u, (convert s d a).run P w = .ok u w ∧ VRel G v u := by
  obtain ⟨sd, hs, h1⟩ := E.b_inv h
  clear h
  obtain ⟨dd, hd, h⟩ := E.b_inv h1
  clear h1
  have us := und_inv hs
  have ud := und_inv hd
  split at h
  · next k k' n =>
    cases hx
    have := okI_inv h; subst this
    rw [wrapF_eq]
    exact ⟨_, by simp [convert, run_underlying us, run_underlying ud, Conv.intToInt], .int _ _⟩
  · next k' k k'' n =>
    cases hx
    cases h
    exact ⟨_, by simp [convert, run_underlying us, run_underlying ud, Conv.intToFloat], .flt _ _⟩
  · next e =>
    obtain ⟨ed, he, h1⟩ := E.b_inv h
    clear h
    have ue := und_inv he
    split at h1
    · split at h1
      · exact nomatch h1
      · next hns =>
        obtain ⟨c, hc, h2⟩ := E.b_inv h1
        obtain ⟨l, hl, h3⟩ := E.b_inv h2
        cases h3
        unfold cellsOf at hc
        split at hc
        · cases hc
          cases hl
          cases hx
          exact ⟨.string .empty, by simp [convert, run_underlying us, run_underlying ud, run_underlying ue, Conv.bytesToString], .str rfl⟩
        · next id off len cap =>
          obtain ⟨ar, har, h4⟩ := E.b_inv hc
          obtain ⟨cs, hcs, h5⟩ := E.b_inv h4
          cases h5
          cases hx with | @sl _ _ _ capC o _ y hy hl' hm hcc ho hsz =>
          obtain ⟨cc, el, fr, hh, hb, hone, hlen, hv⟩ := cells_read hr hy har hcs
          rw [Nat.mul_one] at hlen
          have hvr : VRels G cs ((List.range len).map fun j => cc.getD (y.base + off + j) undef) := by
            have := VRels.of_fn (f := fun j => cc.getD (y.base + off + j) undef) hv
            rwa [hlen] at this
          obtain ⟨bs, e1, e2⟩ := readBytes_inv hl hvr
          have hload : (loadCells ⟨y.b, o, none⟩ len).run P w = .ok ((bs.map fun b : UInt8 => (b.toNat : Int)).map (Value.int .u8)).toArray w := by
            rw [run_loadCells w ⟨y.b, o, none⟩ len (fun j => cc.getD (y.base + off + j) undef) (fun j hj => by
              have ho' : o = y.base + off := ho.resolve_left (by omega)
              rw [add_none, ho']
              exact cell_at hh (hb j (by omega)))]
            rw [e2]
            simp
          refine ⟨_, by simp only [convert, Sem.run_bind, run_underlying us, run_underlying ud, run_underlying ue, Result.andThen_ok]; exact run_bytesToString w ⟨y.b, o, none⟩ len capC _ hload, .str ?_⟩
          rw [← e1]
          have : ∀ (l : List UInt8) (r : ByteArray), bytesL ((l.map fun b : UInt8 => (b.toNat : Int)).foldl (fun r n => r.push (UInt8.ofNat n.toNat)) r) = bytesL r ++ l.map UInt8.toNat := by
            intro l
            induction l with
            | nil => intro r; simp
            | cons b l ih =>
              intro r
              simp only [List.map_cons, List.foldl_cons]
              rw [ih]
              simp [bytesL, ByteArray.data_push]
          rw [this]; simp [bytesL]
        · exact absurd rfl (hns _)
        · exact nomatch hc
    · exact nomatch h1
  · next t id off =>
    obtain ⟨ar, har, h1⟩ := E.b_inv h
    clear h
    obtain ⟨h2, h3⟩ := E.whn_inv h1
    cases h3
    rw [Bool.and_eq_true, nblt_eq, decide_eq_true_iff, nbeq_eq] at h2
    cases hx with | @ptr _ _ y hy =>
    obtain ⟨q1, q2, q3, c, el, fr, q4, q5, q6, q7, q8, q9⟩ := hr.ob id _ y (hr.id_lt hy) (arr_inv har) hy
    have hsz : szOf P t ≠ 0 := by simpa using h2.2
    obtain ⟨i, hi⟩ := szOf_info hsz
    exact ⟨_, Lib.run_to_unsafe w ⟨y.b, y.base + off, none⟩ us ud hi (by simpa [szOf, hi] using hsz) (shape_of q4) (by simp; omega), .ptr hy⟩
  · next u id off =>
    obtain ⟨ar, har, h1⟩ := E.b_inv h
    clear h
    split at h1
    · next e he hex =>
      obtain ⟨h2, h3⟩ := E.whn_inv h1
      cases h3
      rw [Bool.and_eq_true, nbeq_eq] at h2
      cases hx with | @ptr _ _ y hy =>
      obtain ⟨q1, q2, q3, c, el, fr, q4, q5, q6, q7, q8, q9⟩ := hr.ob id _ y (hr.id_lt hy) (arr_inv har) hy
      have hsz : szOf P u ≠ 0 := by simpa using h2.2
      obtain ⟨i, hi⟩ := szOf_info hsz
      have hel := q7 e he
      obtain ⟨hb0, hcn⟩ := q8 hex
      refine ⟨_, Lib.run_from_unsafe w ⟨y.b, y.base + off, none⟩ us ud hi (shape_of q4) ?_, .ptr hy⟩
      rw [hel, hcn, hb0, Nat.zero_add]
      exact h2.1
    · exact nomatch h1
  · exact nomatch h
end
end Go.X

/- The interpreter is right, part 11: memory written. -/
namespace Go.X
open Go
section
variable {C : Cx} {B : Nat} {G : Gh} {H : Hp} {w : World} {P : Program}

theorem spl_inv {a : Arr} {off : Nat} {vs : List AV} {o : XObj} (h : a.spl off vs = .ok o) :
    o = .arr a.e a.ex a.k a.d a.n (putT a.d vs off a.cs) a.ro ∧ off + vs.length ≤ a.n ∧ a.ro = false ∧ vs.all AV.one = true := by
  obtain ⟨e, ex, k, d, n, cs, ro⟩ := a
  obtain ⟨h1, h2⟩ := E.whn_inv (show E.whn (Nat.ble (off + lenN vs) n) 5 (E.whn (!ro) 5 (E.whn (allOne vs) 5 (force off fun off => putCs d vs off cs fun cs => .ok (.arr e ex k d n cs ro)))) = .ok o from h)
  obtain ⟨h3, h4⟩ := E.whn_inv h2
  obtain ⟨h5, h6⟩ := E.whn_inv h4
  rw [force_eq, putCs_eq] at h6
  rw [nble_eq, decide_eq_true_iff, lenN_eq] at h1
  rw [allOne_eq] at h5
  cases h6
  exact ⟨rfl, h1, by simpa using h3, h5⟩

/-- Cells that are written. -/
theorem row_write (hr : HR C B G H w) {id : Nat} {x : Blk} (hx : G id = some x) {a : Arr} (ha : H.arr id = .ok a) {off : Nat} {vs : List AV} {o : XObj} (hs : a.spl off vs = .ok o) {us : List Value} (hv : VRels G vs us) :
    ∃ w', (storeCells ⟨x.b, x.base + off, none⟩ us).run P w = .ok () w' ∧ HR C B G (H.upd id o) w' ∧ WK B w w' := by
  obtain ⟨rfl, h1, h2, h3⟩ := spl_inv hs
  have hob := hr.ob id _ x (hr.id_lt hx) (arr_inv ha) hx
  obtain ⟨q1, q2, q3, c, el, fr, q4, q5, q6, q7, q8, q9⟩ := hob
  have := q5 h2
  subst this
  have hl : vs.length = us.length := hv.1
  have hrun := run_storeCells_at (P := P) x.b (x.base + off) el us 0 c w q4 (by omega) (hv.ones h3)
  have hsz : (c.toList.take (x.base + off + 0) ++ us ++ c.toList.drop (x.base + off + 0 + us.length)).toArray.size = c.size := by
    simp; omega
  generalize hc' : (c.toList.take (x.base + off + 0) ++ us ++ c.toList.drop (x.base + off + 0 + us.length)).toArray = c' at hrun hsz
  have hget : ∀ j, j < c.size → c'.getD j undef = if x.base + off ≤ j ∧ j < x.base + off + us.length then us.getD (j - (x.base + off)) undef else c.getD j undef := by
    intro j hj
    rw [← hc']
    simp only [Array.getD_eq_getD_getElem?, List.getElem?_toArray, Nat.add_zero]
    by_cases e1 : j < x.base + off
    · rw [if_neg (by omega), List.append_assoc, List.getElem?_append_left (by simp; omega), List.getElem?_take_of_lt e1]
      simp
    · by_cases e2 : j < x.base + off + us.length
      · rw [if_pos (by omega), List.append_assoc, List.getElem?_append_right (by simp; omega), List.getElem?_append_left (by simp; omega)]
        have : min (x.base + off) c.size = x.base + off := by omega
        simp [this, List.getD_eq_getElem?_getD]
      · rw [if_neg (by omega), List.getElem?_append_right (by simp; omega), List.getElem?_drop]
        have : x.base + off + us.length + (j - (c.toList.take (x.base + off) ++ us).length) = j := by simp; omega
        rw [this]; simp
  have hh' : (w.setRow x.b c').heap[x.b]? = some (.cells c' el (0, 0)) := setRow_heap w x.b c c' el (0, 0) q4
  have hw := hr.write (arr_inv ha) hx (by simp [XObj.fixed, h2]) (w' := w.setRow x.b c') (o' := .arr a.e a.ex a.k a.d a.n (putT a.d vs off a.cs) a.ro) (by simp [World.setRow]) (fun b hb => by simp [World.setRow, Array.getElem?_modify, Ne.symm hb])
    ⟨q1, q2, q3, c', el, (0, 0), hh', fun _ => rfl, by omega, q7, fun e => by obtain ⟨r1, r2⟩ := q8 e; exact ⟨r1, by omega⟩, fun j hj => by
      rw [get_putT _ _ _ _ (by omega) (by omega)]
      by_cases e : off ≤ j ∧ j < off + vs.length
      · rw [if_pos e]
        have hj' : j - off < vs.length := by omega
        refine ⟨vs[j - off], by simp [hj'], List.all_eq_true.1 h3 _ (List.getElem_mem _), ?_⟩
        rw [hget _ (by omega), if_pos (by omega)]
        have := hv.2 (j - off) hj'
        have e2 : x.base + j - (x.base + off) = j - off := by omega
        rw [e2]; exact this
      · rw [if_neg e]
        obtain ⟨b, b1, b2, b3⟩ := q9 j hj
        refine ⟨b, b1, b2, ?_⟩
        rw [hget _ (by omega), if_neg (by omega)]
        exact b3⟩
  exact ⟨w.setRow x.b c', hrun, hw.1, hw.2 rfl rfl rfl⟩

theorem store_sound (hr : HR C B G H w) {t : TypeId} {p v : AV} {a b : Value} {H' : Hp} (h : store P t H p v = .ok H') (hp : VRel G p a) (hv : VRel G v b) :
    ∃ w', (Instr.storeAt t a b).run P w = .ok () w' ∧ HR C B G H' w' ∧ WK B w w' ∧ H'.nx = H.nx := by
  unfold store at h
  split at h
  · next id off =>
    obtain ⟨ar, har, h1⟩ := E.b_inv h
    obtain ⟨h2, h3⟩ := E.whn_inv h1
    obtain ⟨o, ho, h4⟩ := E.b_inv h3
    rw [Hp.setK_eq] at h4
    cases h4
    rw [Bool.and_eq_true, nbeq_eq, decide_eq_true_iff, lenN_eq] at h2
    obtain ⟨i, hi⟩ := info_of h2.2
    cases hp with | @ptr _ _ x hx =>
    have hvr := hv.cellsR (spl_inv ho).2.2.2
    obtain ⟨w', h5, h6, h7⟩ := row_write (P := P) hr hx har ho hvr
    have hsz : b.cells.size = szOf P t := by have := hvr.1; simp at this; omega
    exact ⟨w', by simp [Instr.storeAt, Instr.sureAddr, storeVar, sz_run hi, hsz, h5], h6, h7, rfl⟩
  · exact nomatch h
end
end Go.X

/- The interpreter is right, part 12: append. -/
namespace Go.X
open Go
section
variable {C : Cx} {B : Nat} {G : Gh} {H : Hp} {w : World} {P : Program}

/-- New names alone are given. -/
def Gh.ext (n : Nat) (G G' : Gh) : Prop := G.le G' ∧ ∀ id, id < n → G id = none → G' id = none
theorem Gh.ext_refl (n : Nat) (G : Gh) : G.ext n G := ⟨G.le_refl, fun _ _ h => h⟩
theorem Gh.ext_trans {n m : Nat} {a b c : Gh} (h : Gh.ext n a b) (k : Gh.ext m b c) (hnm : n ≤ m) : Gh.ext n a c := ⟨Gh.le_trans h.1 k.1, fun id hid hn => k.2 id (by omega) (h.2 id hid hn)⟩
theorem Gh.ext_add {G : Gh} {n : Nat} (x : Blk) (h : G n = none) : Gh.ext n G (G.add n x) := ⟨Gh.le_add x h, fun id hid hn => by rw [Gh.add_other _ _ (by omega)]; exact hn⟩

theorem cells_set {b o : Nat} {c : Array Value} {el : TypeId} (hh : w.heap[b]? = some (.cells c el (0, 0))) {us : List Value} (hfit : o + us.length ≤ c.size) (h1 : ∀ v ∈ us, v.oneCell' = true) :
    ∃ w' c', (storeCells ⟨b, o, none⟩ us).run P w = .ok () w' ∧ w'.heap[b]? = some (.cells c' el (0, 0)) ∧ c'.size = c.size ∧ (∀ j, j < c.size → c'.getD j undef = if o ≤ j ∧ j < o + us.length then us.getD (j - o) undef else c.getD j undef) ∧
      (∀ b', b' ≠ b → w'.heap[b']? = w.heap[b']?) ∧ w'.heap.size = w.heap.size ∧ w'.os = w.os ∧ w'.tape = w.tape ∧ w'.output = w.output := by
  have hrun := run_storeCells_at (P := P) b o el us 0 c w hh (by omega) h1
  have hsz : (c.toList.take (o + 0) ++ us ++ c.toList.drop (o + 0 + us.length)).toArray.size = c.size := by
    simp; omega
  generalize hc' : (c.toList.take (o + 0) ++ us ++ c.toList.drop (o + 0 + us.length)).toArray = c' at hrun hsz
  refine ⟨w.setRow b c', c', hrun, setRow_heap w b c c' el (0, 0) hh, hsz, fun j hj => ?_, fun b' hb => setRow_other w b b' c' hb, by simp, rfl, rfl, rfl⟩
  rw [← hc']
  simp only [Array.getD_eq_getD_getElem?, List.getElem?_toArray, Nat.add_zero]
  by_cases e1 : j < o
  · rw [if_neg (by omega), List.append_assoc, List.getElem?_append_left (by simp; omega), List.getElem?_take_of_lt e1]
    simp
  · by_cases e2 : j < o + us.length
    · rw [if_pos (by omega), List.append_assoc, List.getElem?_append_right (by simp; omega), List.getElem?_append_left (by simp; omega)]
      have : min o c.size = o := by omega
      simp [this, List.getD_eq_getElem?_getD]
    · rw [if_neg (by omega), List.getElem?_append_right (by simp; omega), List.getElem?_drop]
      have : o + us.length + (j - (c.toList.take o ++ us).length) = j := by simp; omega
      rw [this]; simp

/-- What is appended. -/
theorem cells_src (hr : HR C B G H w) {k n : Nat} {x : AV} {cs : List AV} {u : Value} (h : cellsOf H k x = .ok (n, cs)) (hx : VRel G x u) {tx : TypeId} (hk : (∃ e', P.underlying tx = some (.slice e')) ∨ P.underlying tx = some .string)
    (hs : x = .nils ∨ (∃ a b c d, x = .sl a b c d) → ∃ e', P.underlying tx = some (.slice e')) (ht : (∃ l, x = .str l) → P.underlying tx = some .string) :
    ∃ news, Src P k tx u n news w ∧ VRels G cs news ∧ cs.all AV.one = true := by
  unfold cellsOf at h
  split at h
  · cases h
    cases hx
    obtain ⟨e', he⟩ := hs (.inl rfl)
    exact ⟨[], Src.ofNil w he 0, .nil G, rfl⟩
  · next id off len cap =>
    obtain ⟨ar, har, h1⟩ := E.b_inv h
    obtain ⟨cs', hcs, h2⟩ := E.b_inv h1
    cases h2
    obtain ⟨e', he⟩ := hs (.inr ⟨_, _, _, _, rfl⟩)
    cases hx with | @sl _ _ _ capC o _ y hy hl hm hcc ho hsz =>
    obtain ⟨cc, el, fr, hh, hb, hone, hlen, hv⟩ := cells_read hr hy har hcs
    have hvr : VRels G cs ((List.range (n * k)).map fun j => cc.getD (y.base + off + j) undef) := by
      have := VRels.of_fn (f := fun j => cc.getD (y.base + off + j) undef) hv
      rwa [hlen] at this
    have hall : cs.all AV.one = true := List.all_eq_true.2 hone
    refine ⟨_, Src.ofSlice w he ⟨y.b, o, none⟩ n capC _ (by simp) (fun j v hj => ?_) (hvr.ones hall), hvr, hall⟩
    have hj' : j < n * k := by
      have := (List.getElem?_eq_some_iff.1 hj).1
      simpa using this
    have hl0 : capC ≠ 0 := by
      intro q
      have : n = 0 := by omega
      subst this; simp at hj'
    have ho' : o = y.base + off := ho.resolve_left hl0
    rw [add_none, ho', cell_at hh (hb j hj')]
    simp [hj'] at hj
    rw [← hj, Array.getD_eq_getD_getElem?]
  · next l =>
    obtain ⟨h1, h2⟩ := E.whn_inv h
    simp only [forceL_eq, force_eq] at h2
    cases h2
    rw [Bool.and_eq_true, nbeq_eq, decide_eq_true_iff] at h1
    obtain ⟨rfl, h3⟩ := h1
    cases hx with | @str _ s hs' =>
    refine ⟨byteCells s, ?_, ?_, ?_⟩
    · have := Src.ofString (P := P) w (ht ⟨_, rfl⟩) s
      rw [lenN_eq, ← hs', bytesL_size]
      exact this
    · subst hs'
      have := VRels.map (G := G) (f := fun b : UInt8 => AV.int .u8 (Int.ofNat b.toNat)) (g := fun b : UInt8 => Value.int .u8 b.toNat) (fun b => .int _ _) s.data.toList
      simp only [bytesL, byteCells, List.map_map]
      exact this
    · simp [List.all_map]
      intro x _; rfl
  · exact nomatch h

/-- An operation's value, and memory behind it. -/
def ValR (C : Cx) (B : Nat) (G : Gh) (H : Hp) (w : World) (P : Program) (s : Sem Value) (v : AV) (H' : Hp) : Prop :=
  ∃ u w' G', s.run P w = .ok u w' ∧ Gh.ext H.nx G G' ∧ HR C B G' H' w' ∧ VRel G' v u ∧ WK B w w' ∧ H.nx ≤ H'.nx
theorem fits_inv {e : TypeId} {n : Nat} (h : fitsA P e n = true) : ∃ i z, P.info? e = some i ∧ i.zero = some z ∧ z.cells.size = i.size ∧ szOf P e = i.size ∧ n < 100000000 ∧ n * i.bytes ≤ 140737488355328 := by
  unfold fitsA at h
  rw [Bool.and_eq_true, Bool.and_eq_true, nblt_eq, nble_eq, decide_eq_true_iff, decide_eq_true_iff] at h
  obtain ⟨⟨h1, h2⟩, h3⟩ := h
  cases hz : zcells P e with
  | er s => rw [hz] at h3; simp at h3
  | ok l =>
    obtain ⟨i, z, hi, hzi, _, _, _, hsz⟩ := zcells_inv (G := fun _ => none) hz
    exact ⟨i, z, hi, hzi, hsz, by simp [szOf, hi], h1, by simpa [byOf, hi] using h2⟩
theorem WK.drew (w : World) : WK B w w.drew := ⟨rfl, rfl, rfl, Nat.le_refl _, fun _ _ => rfl⟩
/-- What an object's cells are. -/
def Cont (G : Gh) (d : Nat) (cs : Tr AV) (vs : List Value) : Prop := ∀ j, j < vs.length → ∃ a, Tr.get (path d j) cs = some a ∧ a.one = true ∧ VRel G a (vs.getD j undef)
theorem Cont.mk {e : Option TypeId} {ex : Bool} {k : Nat} {cs : List AV} {ro : Bool} {o : XObj} (h : mkArr e ex k cs ro = .ok o) {vs : List Value} (hv : VRels G cs vs) :
    ∃ d t, o = .arr e ex k d vs.length t ro ∧ Cont G d t vs ∧ vs.length ≤ 2 ^ d := by
  obtain ⟨d, rfl, a1, a2⟩ := mkArr_inv h
  have hl := hv.1
  refine ⟨d, _, by rw [hl], fun j hj => ?_, by omega⟩
  have hj' : j < cs.length := by omega
  refine ⟨cs[j], ?_, List.all_eq_true.1 a1 _ (List.getElem_mem _), hv.2 j hj'⟩
  rw [get_putT _ _ _ _ (by omega) (by omega), if_pos (by omega)]
  simp [hj']
theorem Cont.rel {x : Blk} {e : Option TypeId} {k d : Nat} {t : Tr AV} {vs : List Value} (h : Cont G d t vs) (hd : vs.length ≤ 2 ^ d) {c : Array Value} {el : TypeId} (hk : x.k = k) (hh : w.heap[x.b]? = some (.cells c el (0, 0)))
    (hsz : x.base + x.sz ≤ c.size) (hn : vs.length ≤ x.sz) (he : ∀ t, e = some t → el = t) (hc : ∀ j, j < vs.length → c.getD (x.base + j) undef = vs.getD j undef) : ORel C G w x (.arr e false k d vs.length t false) :=
  ⟨hk, hd, hn, c, el, (0, 0), hh, fun _ => rfl, hsz, he, (fun q => by cases q), (fun j hj => by obtain ⟨a, h1, h2, h3⟩ := h j hj; exact ⟨a, h1, h2, by rw [hc j hj]; exact h3⟩)⟩
/-- A new row. -/
theorem grow_new (hr : HR C B G H w) (hnx : H.nx < 2 ^ dH) {e : TypeId} {e' : Option TypeId} (he : ∀ t, e' = some t → e = t) {k n cap d : Nat} {t : Tr AV} {vs : List Value} {zs : Array Value} (hv : Cont G d t vs) (hd : vs.length ≤ 2 ^ d)
    (h1 : n ≤ cap) (h2 : cap ≤ maxLen) (h3 : cap * k ≤ vs.length + zs.size) :
    HR C B (G.add H.nx ⟨w.heap.size, 0, k, vs.length + zs.size⟩) (H.add (.arr e' false k d vs.length t false)) (w.drew.alloc (.cells (vs.toArray ++ zs) e)) ∧ Gh.ext H.nx G (G.add H.nx ⟨w.heap.size, 0, k, vs.length + zs.size⟩) ∧ WK B w (w.drew.alloc (.cells (vs.toArray ++ zs) e)) ∧
      VRel (G.add H.nx ⟨w.heap.size, 0, k, vs.length + zs.size⟩) (.sl H.nx 0 n none) (.slice (some ⟨w.heap.size, 0, none⟩) n cap) := by
  have hd' : HR C B G H w.drew := hr.world rfl
  obtain ⟨q1, q2, q3⟩ := hd'.alloc hnx (o := .arr e' false k d vs.length t false) (ob := .cells (vs.toArray ++ zs) e) (x := ⟨w.heap.size, 0, k, vs.length + zs.size⟩) rfl (by
    have hv' : Cont (G.add H.nx ⟨w.heap.size, 0, k, vs.length + zs.size⟩) d t vs := fun j hj => by
      obtain ⟨a, b1, b2, b3⟩ := hv j hj
      exact ⟨a, b1, b2, b3.mono (Gh.le_add _ hr.fresh)⟩
    refine hv'.rel hd (c := vs.toArray ++ zs) (el := e) rfl heap_push_new (by simp) (by simp) he (fun j hj => ?_)
    simp [Array.getD_eq_getD_getElem?, List.getD_eq_getElem?_getD, Array.getElem?_append_left, hj])
  exact ⟨q1, Gh.ext_add _ hr.fresh, (WK.drew w).trans q3, .sl (Gh.add_same _ _ _) h1 h2 (fun _ h => by cases h) (.inr rfl) (.inr (by simpa using h3))⟩
/-- The old row, under a new name. -/
theorem room_new (hr : HR C B G H w) (hnx : H.nx < 2 ^ dH) {id : Nat} {y : Blk} (hy : G id = some y) {o : XObj} (hg : H.get id = some o) (hf : o.fixed = false) {w' : World} (hsz : w'.heap.size = w.heap.size) (hkeep : ∀ b, b ≠ y.b → w'.heap[b]? = w.heap[b]?)
    {x : Blk} (hxb : x.b = y.b) {o' : XObj} (ho : ORel C (G.add H.nx x) w' x o') : HR C B (G.add H.nx x) ((H.rem id).add o') w' ∧ Gh.ext H.nx G (G.add H.nx x) := by
  have hid := hr.id_lt' hy
  have hn : (H.rem id).nx = H.nx := rfl
  have h1 := (hr.rem hid).unborn hnx o'
  refine ⟨h1.bear (id := H.nx) (by show H.nx < H.nx + 1; omega) hr.fresh ((Hp.get_add (H := H.rem id) o' hnx hnx).trans (if_pos rfl)) (by omega) (by rw [hxb, hsz]; exact hr.lt _ _ hy) (fun b _ hb => hkeep b (by rw [← hxb]; exact hb)) (by rw [hxb]; exact hr.own id o y (hr.id_lt hy) hg hy hf)
    (fun j p z q1 q2 q3 e => ?_) ho, Gh.ext_add x hr.fresh⟩
  have hj := hr.id_lt q3
  have hj2 := hr.id_lt' q3
  rw [Hp.get_add (H := H.rem id) o' hnx hj2, if_neg (by show ¬ H.nx = j; omega), Hp.get_rem hid hj2] at q2
  by_cases ej : id = j
  · rw [if_pos ej] at q2; cases q2
  · rw [if_neg ej] at q2
    have := (hr.inj id j o p y z (hr.id_lt hy) hj hg q2 hy q3 (by rw [e, hxb]) ej).1
    rw [hf] at this; cases this

theorem keepE_inv {a : Option TypeId} {e t : TypeId} (h : keepE a e = some t) : a = some t ∧ e = t := by
  unfold keepE at h
  cases a with
  | none => cases h
  | some s =>
    cases hb : Nat.beq s e with
    | false => simp only [hb] at h; cases h
    | true =>
      simp only [hb] at h
      cases h
      rw [nbeq_eq, decide_eq_true_iff] at hb
      exact ⟨by rw [hb], rfl⟩
theorem growTo_inv {e : TypeId} {id : Nat} {a : Arr} {len m : Nat} {ys : List AV} {nx : Nx} (h : growTo H e id a len m ys = .ok nx) :
    H.nx < 2 ^ dH ∧ nx = .val (.sl H.nx 0 (len + m) none) ((H.rem id).add (.arr (keepE a.e e) false a.k a.d ((len + m) * a.k) (putT a.d ys a.n a.cs) false)) := by
  obtain ⟨e', ex, k, d, n, cs, ro⟩ := a
  have h : (force ((len + m) * k) fun n' => putCs d ys n cs fun cs => H.delK id fun H => H.new (.arr (keepE e' e) false k d n' cs false) fun id' H => force (len + m) fun n => .ok (.val (.sl id' 0 n none) H) : E Nx) = .ok nx := h
  rw [force_eq, putCs_eq, Hp.delK_eq] at h
  obtain ⟨h1, h2⟩ := Hp.new_inv h
  rw [force_eq] at h2
  cases h2
  exact ⟨h1, rfl⟩
theorem append_sound (hr : HR C B G H w) {t tx ty e : TypeId} (ht : P.underlying t = some (.slice e)) {s : AV} {sv xv : Value} (hs : VRel G s sv) {ys : List AV} {m : Nat} {news : List Value} (hsrc : Src P (szOf P e) tx xv m news w) (hys : VRels G ys news)
    (h1 : ys.all AV.one = true) {nx : Nx} (h : appendTo P H e s ys m = .ok nx) : ∃ v H', nx = .val v H' ∧ ValR C B G H w P (Builtin.append_ #[t, tx] ty #[sv, xv]) v H' := by
  obtain ⟨hf, h'⟩ := E.whn_inv h
  clear h; have h := h'; clear h'
  obtain ⟨i, z, hi, hz, hzs, hszP, hm1, hm2⟩ := fits_inv hf
  rw [hszP] at hsrc
  have hyl : ys.length = m * i.size := by rw [hys.1]; exact hsrc.newsLen
  cases hb : Nat.beq m 0 with
  | true =>
    rw [hb] at h
    rw [nbeq_eq, decide_eq_true_iff] at hb
    subst hb
    have hn : news = [] := List.length_eq_zero_iff.1 (by rw [hsrc.newsLen]; simp)
    subst hn
    simp only [cond_true] at h
    split at h
    · cases h; cases hs
      exact ⟨_, _, rfl, _, w, G, run_append_nothing w t tx ty e i ht hi none 0 0 (Nat.le_refl _) xv hsrc, Gh.ext_refl _ _, hr, .nils, WK.refl _ _, Nat.le_refl _⟩
    · cases h
      cases hs with | @sl _ _ _ capC o _ y hy hl hm hcc ho hsz =>
      exact ⟨_, _, rfl, _, w, G, run_append_nothing w t tx ty e i ht hi _ _ capC hl xv hsrc, Gh.ext_refl _ _, hr, .sl hy hl hm hcc ho hsz, WK.refl _ _, Nat.le_refl _⟩
    · exact nomatch h
  | false =>
    rw [hb] at h
    rw [nbeq_eq, decide_eq_false_iff_not] at hb
    simp only [cond_false] at h
    split at h
    · cases hs
      obtain ⟨o, ho, h2⟩ := E.b_inv h
      obtain ⟨hnx, h3⟩ := Hp.new_inv h2
      cases h3
      rw [hszP] at ho
      have hrun := run_append_grow_src w t tx ty e i z ht hi hz none 0 0 [] (run_firstCells_none w.drew i.size 0 0 0) xv m news hsrc (by omega) (by omega) (growslice_fits (by omega) (by simpa using hm2))
      simp only [Nat.zero_add, List.nil_append] at hrun
      have hcap := grownCap_ge w m 0 e
      have hcm := grownCap_le_maxLen w m 0 e (by unfold maxLen; omega)
      obtain ⟨d, tr, rfl, hct, hd2⟩ := Cont.mk ho hys
      obtain ⟨r1, r2, r3, r4⟩ := grow_new (C := C) hr hnx (e := e) (e' := some e) (k := i.size) (fun t ht => by cases ht; rfl) (vs := news) (zs := Builtin.zeroCells z.cells (grownCap w m 0 e - m)) (n := m) (cap := grownCap w m 0 e) hct hd2 hcap hcm (by
        rw [size_zeroCells, hzs, hsrc.newsLen, ← Nat.add_mul]
        exact Nat.mul_le_mul_right _ (by omega))
      exact ⟨_, _, rfl, _, _, _, hrun, r2, r1, r4, r3, Nat.le_succ _⟩
    · next id off len cap =>
      obtain ⟨hf2, h2⟩ := E.whn_inv h
      clear h
      obtain ⟨_, _, hi', _, _, _, hm3, hm4⟩ := fits_inv hf2
      rw [hi] at hi'; cases hi'
      obtain ⟨ar, har, h3⟩ := E.b_inv h2
      clear h2
      obtain ⟨h4, h⟩ := E.whn_inv h3
      clear h3
      rw [Bool.and_eq_true, nbeq_eq, decide_eq_true_iff, nble_eq, decide_eq_true_iff, hszP] at h4
      obtain ⟨hk, hin⟩ := h4
      cases hs with | @sl _ _ _ capC o _ y hy hl hm hcc ho hsz =>
      have hob := hr.ob id _ y (hr.id_lt hy) (arr_inv har) hy
      obtain ⟨q1, q2, q3, c, el, fr, q4, q5, q6, q7, q8, q9⟩ := hob
      have hyk : y.k = i.size := by rw [q1, hk]
      -- the cells that are there
      have grow : capC < len + m → ∀ {old : List AV}, ar.sub off (len * ar.k) = .ok old → ∀ {H0 : Hp}, HR C B G H0 w → H0.nx = H.nx → ∀ {nx : Nx}, moveTo H0 (some e) ar.k len m old ys = .ok nx →
          ∃ v H', nx = .val v H' ∧ ValR C B G H w P (Builtin.append_ #[t, tx] ty #[.slice (some ⟨y.b, o, none⟩) len capC, xv]) v H' := by
        intro hg old hold H0 hr0 hnx0 nx hmv
        obtain ⟨ob, hob, h5⟩ := E.b_inv hmv
        obtain ⟨hnx, h6⟩ := Hp.new_inv h5
        rw [force_eq] at h6
        cases h6
        obtain ⟨cc, el', fr', hh, hbd, hone, hlen, hv⟩ := cells_read hr hy har hold
        rw [hk] at hlen hbd hob
        have hvr : VRels G old ((List.range (len * i.size)).map fun j => cc.getD (y.base + off + j) undef) := by
          have := VRels.of_fn (f := fun j => cc.getD (y.base + off + j) undef) hv
          rwa [hlen] at this
        have hfc := run_firstCells_some (P := P) w.drew i.size len ⟨y.b, o, none⟩ len capC ((List.range (len * i.size)).map fun j => cc.getD (y.base + off + j) undef) (by simp) (fun j v hj => by
          have hj' : j < len * i.size := by
            have := (List.getElem?_eq_some_iff.1 hj).1
            simpa using this
          have hl0 : capC ≠ 0 := by
            intro q
            have : len = 0 := by omega
            subst this; simp at hj'
          have ho' : o = y.base + off := ho.resolve_left hl0
          have hh' : w.drew.heap[y.b]? = some (.cells cc el' fr') := hh
          rw [add_none, ho', cell_at hh' (hbd j hj')]
          simp [hj'] at hj
          rw [← hj, Array.getD_eq_getD_getElem?])
        have hrun := run_append_grow_src w t tx ty e i z ht hi hz (some ⟨y.b, o, none⟩) len capC _ hfc xv m news hsrc hg (by omega) (growslice_fits hg hm4)
        have hcap := grownCap_ge w (len + m) capC e
        have hcm := grownCap_le_maxLen w (len + m) capC e (by unfold maxLen; omega)
        obtain ⟨d, tr, rfl, hct, hd2⟩ := Cont.mk hob (hvr.append hys)
        obtain ⟨r1, r2, r3, r4⟩ := grow_new (C := C) hr0 hnx (e := e) (e' := some e) (k := i.size) (fun t ht => by cases ht; rfl) (vs := ((List.range (len * i.size)).map fun j => cc.getD (y.base + off + j) undef) ++ news) (zs := Builtin.zeroCells z.cells (grownCap w (len + m) capC e - (len + m))) (n := len + m) (cap := grownCap w (len + m) capC e)
          hct hd2 hcap hcm (by
          rw [size_zeroCells, hzs, List.length_append, List.length_map, List.length_range, hsrc.newsLen, ← Nat.add_mul, ← Nat.add_mul]
          exact Nat.mul_le_mul_right _ (by omega))
        refine ⟨_, _, rfl, _, _, _, hrun, (by rw [← hnx0]; exact r2), r1, r4, r3, ?_⟩
        show H.nx ≤ H0.nx + 1
        omega
      split at h
      · next c =>
        have hcap := hcc c rfl
        subst hcap
        cases hble : Nat.ble (len + m) c with
        | true =>
          rw [hble] at h
          rw [nble_eq, decide_eq_true_iff] at hble
          obtain ⟨ob, hob, h5⟩ := E.b_inv h
          rw [force_eq, Hp.setK_eq] at h5
          cases h5
          obtain ⟨w', g1, g2, g3⟩ := row_write (P := P) hr hy har hob hys
          have hro := (spl_inv hob).2.2.1
          have hfr := q5 hro
          subst hfr
          have hoo : o = y.base + off := ho.resolve_left (by omega)
          have hspl := (spl_inv hob).2.1
          have hnl : news.length = ys.length := hys.1.symm
          rw [hk] at g1 hspl
          have hst := run_storeCells_cells (P := P) y.b (o + len * i.size) news 0 w (fun j hj => by
            rw [Nat.add_zero, cell_at q4 (by omega)]; rfl) (fun j hj => by simp [World.frozen?, q4]) hsrc.one
          rw [hoo, Nat.add_assoc] at hst
          rw [g1] at hst
          have hrun := run_append_room_src w t tx ty e i ht hi y.b o len c xv m news hsrc hble (fun j hj => by
            rw [cell_at q4 (by omega)]; rfl) (fun j hj => by simp [World.frozen?, q4])
          have hw : w' = w.setCells y.b (o + len * i.size) news := by
            have : Result.ok () w' = Result.ok () (w.setCells y.b (y.base + (off + len * i.size) + 0) news) := hst
            rw [hoo, Nat.add_assoc]
            injection this
          rw [← hw] at hrun
          exact ⟨_, _, rfl, _, _, G, hrun, Gh.ext_refl _ _, g2, .sl hy hble hm (fun n hn => by cases hn; rfl) ho hsz, g3, Nat.le_refl _⟩
        | false =>
          rw [hble] at h
          rw [nble_eq, decide_eq_false_iff_not] at hble
          obtain ⟨old, hold, h5⟩ := E.b_inv h
          exact grow (by omega) hold hr rfl h5
      · obtain ⟨hro0, h5⟩ := E.whn_inv h
        clear h
        have hro : ar.ro = false := by simpa using hro0
        have hfr := q5 hro
        subst hfr
        have hg := arr_inv har
        have hid2 := hr.id_lt' hy
        -- the row as it is found
        generalize hold : ((List.range (len * ar.k)).map fun j => c.getD (y.base + off + j) undef) = olds
        have hol : olds.length = len * ar.k := by rw [← hold]; simp
        have hog : ∀ j, j < len * ar.k → olds.getD j undef = c.getD (y.base + off + j) undef := by
          intro j hj
          rw [← hold]; simp [List.getD_eq_getElem?_getD, hj]
        have hone : ∀ v ∈ olds ++ news, v.oneCell' = true := by
          intro v hv
          rcases List.mem_append.1 hv with hv | hv
          · rw [← hold] at hv
            obtain ⟨j, hj, rfl⟩ := List.mem_map.1 hv
            have hj := List.mem_range.1 hj
            obtain ⟨a, _, a2, a3⟩ := q9 (off + j) (by omega)
            rw [Nat.add_assoc]
            exact a3.one a2
          · exact hsrc.one v hv
        have hvl : (olds ++ news).length = (len + m) * ar.k := by
          rw [List.length_append, hol, hsrc.newsLen, ← hk, ← Nat.add_mul]
        have fin : ∀ (d : Nat) (tr : Tr AV) (e' : Option TypeId), (∀ t, e' = some t → el = t ∧ e = t) → Cont G d tr (olds ++ news) → (olds ++ news).length ≤ 2 ^ d → H.nx < 2 ^ dH →
            ValR C B G H w P (Builtin.append_ #[t, tx] ty #[.slice (some ⟨y.b, o, none⟩) len capC, xv]) (.sl H.nx 0 (len + m) none) ((H.rem id).add (.arr e' false ar.k d (olds ++ news).length tr false)) := by
          intro d tr e' he hct hd hnx
          by_cases hroom : len + m ≤ capC
          · have hoo : o = y.base + off := ho.resolve_left (by omega)
            have hsz' : off + capC * y.k ≤ y.sz := hsz.resolve_left (by omega)
            have hmk : len * ar.k + m * ar.k ≤ capC * ar.k := by rw [← Nat.add_mul]; exact Nat.mul_le_mul_right _ hroom
            rw [q1] at hsz'
            rw [← hk] at hyl
            have hnl : news.length = m * ar.k := by rw [hsrc.newsLen, hk]
            obtain ⟨w', c', g1, g2, g3, g4, g5, g6, g7, g8, g9⟩ := cells_set (P := P) q4 (o := o + len * ar.k) (us := news) (by omega) hsrc.one
            have hst := run_storeCells_cells (P := P) y.b (o + len * ar.k) news 0 w (fun j hj => by
              rw [Nat.add_zero, cell_at q4 (by omega)]; rfl) (fun j hj => by simp [World.frozen?, q4]) hsrc.one
            rw [Nat.add_zero, g1] at hst
            have hw : w' = w.setCells y.b (o + len * ar.k) news := by injection hst
            have hrun := run_append_room_src w t tx ty e i ht hi y.b o len capC xv m news hsrc hroom (fun j hj => by
              rw [cell_at q4 (by rw [← hk]; omega)]; rfl) (fun j hj => by simp [World.frozen?, q4])
            rw [← hk, ← hw] at hrun
            obtain ⟨r1, r2⟩ := room_new hr hnx hy hg hro g6 g5 (x := ⟨y.b, y.base + off, ar.k, capC * ar.k⟩) rfl (o' := .arr e' false ar.k d (olds ++ news).length tr false) (by
              have hct' : Cont (G.add H.nx ⟨y.b, y.base + off, ar.k, capC * ar.k⟩) d tr (olds ++ news) := fun j hj => by
                obtain ⟨a, b1, b2, b3⟩ := hct j hj
                exact ⟨a, b1, b2, b3.mono (Gh.le_add _ hr.fresh)⟩
              refine hct'.rel hd (c := c') (el := el) rfl g2 (by show y.base + off + capC * ar.k ≤ _; omega) (by show (olds ++ news).length ≤ capC * ar.k; rw [hvl, Nat.add_mul]; omega) (fun t ht => (he t ht).1) (fun j hj => ?_)
              show c'.getD (y.base + off + j) undef = _
              rw [hvl, Nat.add_mul] at hj
              rw [g4 _ (by omega)]
              by_cases ej : j < len * ar.k
              · rw [if_neg (by omega), ← hog j ej]
                simp [List.getD_eq_getElem?_getD, List.getElem?_append_left, hol, ej]
              · rw [if_pos (by omega)]
                have : y.base + off + j - (o + len * ar.k) = j - len * ar.k := by omega
                rw [this]
                simp [List.getD_eq_getElem?_getD, List.getElem?_append_right, hol, Nat.le_of_not_lt ej])
            exact ⟨_, w', _, hrun, r2, r1, VRel.sl (x := ⟨y.b, y.base + off, ar.k, capC * ar.k⟩) (Gh.add_same _ _ _) hroom hm (fun _ h => by cases h) (.inr (show o = y.base + off + 0 by omega)) (.inr (show (0 : Nat) + capC * ar.k ≤ capC * ar.k by omega)), ⟨g7, g8, g9, Nat.le_of_eq g6.symm, fun b hb => g5 b (by
              have := hr.own id _ y (hr.id_lt hy) hg hy hro
              omega)⟩, Nat.le_succ _⟩
          · have hfc := run_firstCells_some (P := P) w.drew i.size len ⟨y.b, o, none⟩ len capC olds (by rw [hol, hk]) (fun j v hj => by
              have hj' : j < len * ar.k := by
                have := (List.getElem?_eq_some_iff.1 hj).1
                omega
              have hl0 : capC ≠ 0 := by
                intro q
                have : len = 0 := by omega
                subst this; simp at hj'
              have ho' : o = y.base + off := ho.resolve_left hl0
              have hh' : w.drew.heap[y.b]? = some (.cells c el (0, 0)) := q4
              rw [add_none, ho', cell_at hh' (by omega)]
              have := hog j hj'
              rw [List.getD_eq_getElem?_getD, hj] at this
              rw [← this]; rfl)
            have hrun := run_append_grow_src w t tx ty e i z ht hi hz (some ⟨y.b, o, none⟩) len capC _ hfc xv m news hsrc (by omega) (by omega) (growslice_fits (by omega) hm4)
            have hcap := grownCap_ge w (len + m) capC e
            have hcm := grownCap_le_maxLen w (len + m) capC e (by unfold maxLen; omega)
            obtain ⟨r1, r2, r3, r4⟩ := grow_new (C := C) (hr.rem hid2) (H := H.rem id) hnx (e := e) (e' := e') (k := ar.k) (fun t ht => (he t ht).2) (vs := olds ++ news) (zs := Builtin.zeroCells z.cells (grownCap w (len + m) capC e - (len + m))) (n := len + m) (cap := grownCap w (len + m) capC e)
              hct hd hcap hcm (by
              rw [size_zeroCells, hzs, hvl, ← hk, ← Nat.add_mul]
              exact Nat.mul_le_mul_right _ (by omega))
            exact ⟨_, _, _, hrun, r2, r1, r4, r3, Nat.le_succ _⟩
        cases hcond : (Nat.beq off 0 && Nat.beq (len * ar.k) ar.n && Nat.ble ((len + m) * ar.k) (Nat.pow 2 ar.d) && allOne ys) with
        | true =>
          rw [hcond] at h5
          obtain ⟨hnx, rfl⟩ := growTo_inv (show growTo H e id ar len m ys = .ok nx from h5)
          rw [Bool.and_eq_true, Bool.and_eq_true, Bool.and_eq_true, nbeq_eq, nbeq_eq, nble_eq, decide_eq_true_iff, decide_eq_true_iff, decide_eq_true_iff] at hcond
          obtain ⟨⟨⟨rfl, hn⟩, hd⟩, _⟩ := hcond
          have hd : (len + m) * ar.k ≤ 2 ^ ar.d := hd
          rw [Nat.add_mul] at hd
          rw [← hk] at hyl
          have hct : Cont G ar.d (putT ar.d ys ar.n ar.cs) (olds ++ news) := by
            intro j hj
            rw [hvl, Nat.add_mul] at hj
            rw [get_putT _ _ _ _ (by omega) (by omega)]
            by_cases ej : j < len * ar.k
            · rw [if_neg (by omega)]
              obtain ⟨a, b1, b2, b3⟩ := q9 j (by omega)
              refine ⟨a, b1, b2, ?_⟩
              have := hog j ej
              simp only [Nat.add_zero] at this
              rw [List.getD_eq_getElem?_getD, List.getElem?_append_left (by omega), ← List.getD_eq_getElem?_getD, this]
              exact b3
            · rw [if_pos (by omega)]
              have hj' : j - ar.n < ys.length := by omega
              refine ⟨ys[j - ar.n], by simp [hj'], List.all_eq_true.1 h1 _ (List.getElem_mem _), ?_⟩
              rw [List.getD_eq_getElem?_getD, List.getElem?_append_right (by omega), ← List.getD_eq_getElem?_getD, hol, hn]
              exact hys.2 _ hj'
          have := fin ar.d _ (keepE ar.e e) (fun t ht => by
            obtain ⟨a1, a2⟩ := keepE_inv ht
            exact ⟨q7 t a1, a2⟩) hct (by rw [hvl, Nat.add_mul]; exact hd) hnx
          rw [hvl] at this
          exact ⟨_, _, rfl, this⟩
        | false =>
          rw [hcond] at h5
          obtain ⟨old, hold2, h6⟩ := E.b_inv (show ((ar.sub off (len * ar.k)).b fun old => H.delK id fun H => moveTo H (keepE ar.e e) ar.k len m old ys) = .ok nx from h5)
          rw [Hp.delK_eq] at h6
          obtain ⟨ob, hob, h7⟩ := E.b_inv h6
          obtain ⟨hnx, h8⟩ := Hp.new_inv h7
          rw [force_eq] at h8
          cases h8
          obtain ⟨cc, el', fr', hh, hbd, hone', hlen, hv⟩ := cells_read hr hy har hold2
          rw [q4] at hh
          cases hh
          have hvr : VRels G old olds := by
            have := VRels.of_fn (f := fun j => c.getD (y.base + off + j) undef) hv
            rw [hlen, hold] at this
            exact this
          obtain ⟨d, tr, rfl, hct, hd2⟩ := Cont.mk hob (hvr.append hys)
          exact ⟨_, _, rfl, fin d tr (keepE ar.e e) (fun t ht => by
            obtain ⟨a1, a2⟩ := keepE_inv ht
            exact ⟨q7 t a1, a2⟩) hct hd2 hnx⟩
    · exact nomatch h
end
end Go.X

