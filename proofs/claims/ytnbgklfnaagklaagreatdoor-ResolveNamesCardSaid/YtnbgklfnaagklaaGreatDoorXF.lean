/- The interpreter of closed calls, and that it is right (part XF): a run of it that ends well tells what the call in the model gives. Conditions: none. -/
import Derived.Test.YtnbgklfnaagklaaGreatDoorXE
import Derived.Orders
import Derived.Lib.LaidTab
import Derived.Deep.DeepHandedRow
set_option linter.unusedVariables false
set_option linter.unusedSimpArgs false
/- The interpreter is right, part 25: the machine comes after; a region that draws its order. -/
namespace Go.X
open Go
section
variable {C : Cx} {B : Nat} {G : Gh} {H : Hp} {w : World} {f0 : FuncId} {cs0 : List Frame} {n0 : Nat}

section
variable {fn : FuncId} {ops : Array Oper} {m d done u : Nat} {o : Oper} {chk : List Ck} {en : XEnv} {r : List Nat} {tmps : Array Value} {lo hi : Nat} {now : Bool} {en0 : XEnv} {V : Nat → AV} {I : Nat → Option Nat}
theorem DrawR.clM (h : DrawR C fn G H lo hi ops m d done chk en (u :: r) tmps now) : ∀ j p, (j < ops.size ∧ j ∉ u :: r) → ops[j]? = some p → ∀ e ∈ directs p, (e < ops.size ∧ e ∉ u :: r) := fun j p hj hp e he =>
  ⟨by have := (drawOK_spec h.ok).dlt j p hp e he; omega, h.lin j p hj.1 hj.2 hp e he⟩
/-- What the next operation looks at is there. -/
theorem DrawR.look (h : DrawR C fn G H lo hi ops m d done chk en (u :: r) tmps now) (ho : ops[u]? = some o) (v1 : Vals G ops m d en0 V (fun q => q < ops.size ∧ q ∉ u :: r) tmps) {e : XEnv} (hl : Looks ops (Region.before ops).toList m d en0 V u o e) :
    ∀ t ∈ lookT ops o, VRel G (rdT m d t e) (tmps.getD t undef) := by
  have hd := drawOK_spec h.ok
  intro t ht
  have hdir : ∀ e ∈ directs o, (e < ops.size ∧ e ∉ u :: r) := fun e he => ⟨by have := hd.dlt u o ho e he; have := lt_of_op ho; omega, h.lin2 [] u r o rfl ho e he⟩
  by_cases hq : ∃ q, Wrt ops q t ∧ bef (Region.before ops).toList u q = true
  · obtain ⟨q, hw, hb⟩ := hq
    rw [(hl t ht).1 q hw hb]
    exact (v1 t).1 q (hd.closed (S := fun q => q < ops.size ∧ q ∉ u :: r) h.clM u o ho hdir q hb) hw
  · have hno : ∀ q, Wrt ops q t → bef (Region.before ops).toList u q = false := fun q hw => by
      cases hb : bef (Region.before ops).toList u q with
      | false => rfl
      | true => exact absurd ⟨q, hw, hb⟩ hq
    rw [(hl t ht).2 hno]
    refine (v1 t).2 fun q hqm hw => ?_
    have hne : q ≠ u := fun e => hqm.2 (by rw [e]; exact List.mem_cons_self)
    rcases hd.look ho ht hw hne with b | b
    · rw [hno q hw] at b; cases b
    · obtain ⟨p, hp, _⟩ := hw
      have := (hd.closed (S := fun q => q < ops.size ∧ q ∉ u :: r) h.clM q p hp (h.clM q p hqm hp) u b).2
      exact this List.mem_cons_self
theorem DrawR.came (h : DrawR C fn G H lo hi ops m d done chk en (u :: r) tmps true) (hsz : tmps.size = C.nt fn) (ho : ops[u]? = some o) (hdu : done.testBit u = true) (hna : actOp o.op = false)
    (v1 : Vals G ops m d en0 V (fun q => q < ops.size ∧ q ∉ u :: r) tmps) (v2 : ValsX ops m d en0 V (fun q => done.testBit q = true) en) (v3 : ∀ u id, I u = some id → lo ≤ id ∧ id < hi) (v4 : ∀ u v id, I u = some id → I v = some id → u = v)
    (v5 : ∀ j, done.testBit j = true → j ∈ u :: r → Pend C G H ops (Region.before ops).toList m d en0 V I chk true j) {G' : Gh} (hle : G.le G') (hG : ∀ j id, j ≠ u → I j = some id → G id = none → G' id = none) {val : Value} (hv : VRel G' (V u) val) :
    DrawR C fn G' H lo hi ops m d done chk en r (putT' tmps o.dst val) true := by
  have hd := drawOK_spec h.ok
  have hnd := List.nodup_cons.1 h.nd
  have hdir := h.lin2 [] u r o rfl ho
  refine ⟨h.dst, h.ok, hnd.2, fun j hj => h.lt j (List.mem_cons_of_mem _ hj), ?_, ?_, ?_, ?_, h.cl, en0, V, I, ?_, v2, v3, v4, ?_⟩
  · intro j p hj hji hp e he hmem
    by_cases e1 : j = u
    · subst e1; rw [ho] at hp; cases hp; exact hdir e he (List.mem_cons_of_mem _ hmem)
    · exact h.lin j p hj (by simp [e1, hji]) hp e he (List.mem_cons_of_mem _ hmem)
  · intro a j b p hb hp e he
    exact h.lin2 (u :: a) j b p (by rw [hb]; rfl) hp e he
  · intro j hj hb
    rcases List.mem_cons.1 (h.sub j hj hb) with e | e
    · subst e; rw [hdu] at hb; cases hb
    · exact e
  · intro j p hp hap hb hmem
    exact h.act j p hp hap hb (List.mem_cons_of_mem _ hmem)
  · have hup : updV V u (V u) = V := funext fun j => by
      by_cases e : j = u
      · subst e; simp
      · rw [updV_other _ _ e]
    have := (v1.mono hle).put hd ho (by simp) (fun s hs => by rw [hsz]; exact dst_lt h.dst ho hs) hv
    rw [hup] at this
    refine this.congr fun q => ?_
    constructor
    · rintro (⟨q1, q2⟩ | rfl)
      · exact ⟨q1, fun q3 => q2 (List.mem_cons_of_mem _ q3)⟩
      · exact ⟨lt_of_op ho, hnd.1⟩
    · rintro ⟨q1, q2⟩
      by_cases e : q = u
      · exact .inr e
      · exact .inl ⟨q1, by simp [e, q2]⟩
  · intro j hb hj
    have hju : j ≠ u := fun e => by subst e; exact hnd.1 hj
    obtain ⟨p, ej, p1, p2, p3, p4⟩ := v5 j hb (List.mem_cons_of_mem _ hj)
    refine ⟨p, ej, p1, p2, p3, ?_⟩
    rcases p4 with p4 | ⟨p4, p5 | p5 | ⟨f, ob, g, id, p6, p7, p8, p9, p10, p11⟩⟩
    · exact .inl p4
    · exact .inr ⟨p4, .inl p5⟩
    · exact .inr ⟨p4, .inr (.inl p5)⟩
    · exact .inr ⟨p4, .inr (.inr ⟨f, ob, g, id, p6, p7, p8, p9, hG j id hju p9 p10, p11⟩)⟩
end

theorem lookT_ops {ops : Array Oper} {o : Oper} {t : Tmp} (h : Operand.tmp t ∈ o.op.operands.toList) : t ∈ lookT ops o := by
  unfold lookT tmpsOf
  exact List.mem_append.2 (.inr (List.mem_filterMap.2 ⟨_, h, rfl⟩))
theorem lookT_guard {ops : Array Oper} {o : Oper} {j : Nat} {b : Bool} {t : Tmp} (hg : o.guard = some (j, b)) (ht : (ops[j]?).bind (·.dst) = some t) : t ∈ lookT ops o := by
  unfold lookT
  rw [hg]
  simp only [ht]
  simp

/-- What has run here runs there. -/
theorem catch_up (hK : KOK C.K) {ops : Array Oper} {done : Nat} {chk : List Ck} {en : XEnv} {lo : Nat} {fr : FR} {fs : List Frame} {k' : List Item} (hlo : lo ≤ H.nx) : ∀ (is : List Nat) (G : Gh) (w : World) (f : Frame), HR C B G H w → FrB C G fr f → f.mode = .run → f.todo = .inRegion ops is :: k' →
    DrawR C fr.fn G H lo H.nx ops fr.m fr.d done chk en is f.tmps true →
    ∃ G' w' f' is', Steps C.K.P (lone f fs w) (lone f' fs w') ∧ Gh.ext lo G G' ∧ HR C B G' H w' ∧ WK B w w' ∧ FrB C G' fr f' ∧ f'.mode = .run ∧ f'.todo = .inRegion ops is' :: k' ∧ DrawR C fr.fn G' H lo H.nx ops fr.m fr.d done chk en is' f'.tmps true ∧ ∀ i r, is' = i :: r → done.testBit i = false
  | [], G, w, f, hr, hB, hm, ht, hD => ⟨G, w, f, [], .refl _ _, Gh.ext_refl _ _, hr, WK.refl _ _, hB, hm, ht, hD, fun _ _ e => by cases e⟩
  | u :: r, G, w, f, hr, hB, hm, ht, hD => by
    cases hdu : done.testBit u with
    | false => exact ⟨G, w, f, u :: r, .refl _ _, Gh.ext_refl _ _, hr, WK.refl _ _, hB, hm, ht, hD, fun i r' e => by cases e; exact hdu⟩
    | true =>
      obtain ⟨en0, V, I, v1, v2, v3, v4, v5⟩ := hD.vals
      obtain ⟨o, eu, ho, hna, hlk, hp⟩ := v5 u hdu List.mem_cons_self
      have hlook := hD.look ho v1 hlk
      have hops : ∀ x ∈ o.op.operands.toList, OpR G fr.m fr.d eu f.eval x := fun x hx => by
        rw [eval_eq]
        exact rd_sound hr fun t e => by subst e; exact hlook t (lookT_ops hx)
      have hwant : ∀ b, wantedX fr.m fr.d ops o eu = some b → Region.wanted o (yielded ops f.tmps) = b := fun b hb => wanted_sound hb hD.dst hB.sz (fun j w' t hg htt => hlook t (lookT_guard hg htt))
      have hnd : ∀ c, o.op ≠ .defer c := fun c hc => by rw [hc] at hna; cases hna
      -- a step, and on
      have next : ∀ {val : Value} {G1 : Gh} {w1 : World}, step C.K.P (lone f fs w) = .next (lone (f.finish val) fs w1) → Gh.ext lo G G1 → (∀ j id, j ≠ u → I j = some id → G id = none → G1 id = none) → HR C B G1 H w1 → WK B w w1 → VRel G1 (V u) val →
          ∃ G' w' f' is', Steps C.K.P (lone f fs w) (lone f' fs w') ∧ Gh.ext lo G G' ∧ HR C B G' H w' ∧ WK B w w' ∧ FrB C G' fr f' ∧ f'.mode = .run ∧ f'.todo = .inRegion ops is' :: k' ∧ DrawR C fr.fn G' H lo H.nx ops fr.m fr.d done chk en is' f'.tmps true ∧ ∀ i r, is' = i :: r → done.testBit i = false := by
        intro val G1 w1 hstep he hG1 hr1 hwk hv
        rw [finish_region ht ho] at hstep
        have hD1 := hD.came hB.sz ho hdu hna v1 v2 v3 v4 v5 he.1 hG1 hv
        obtain ⟨G', w', f', is', s1, s2, s3, s4, s5, s6, s7, s8, s9⟩ := catch_up hK hlo r G1 w1 { f with tmps := putT' f.tmps o.dst val, todo := .inRegion ops r :: k' } hr1 ((hB.mono he.1).upd (by simp)) hm rfl hD1
        exact ⟨G', w', f', is', .head hstep s1, Gh.ext_trans he s2 (Nat.le_refl _), s3, hwk.trans s4, s5, s6, s7, s8, s9⟩
      rcases hp with ⟨hw, hVu⟩ | ⟨hw, ⟨g, hg, hq⟩ | ⟨g, hg, hq, _⟩ | ⟨g, ob, gg, id, hg, hq, hVu, hI, hGn, hget, _⟩⟩
      · refine next (step_skip_op hm ht ho (hwant false hw)) (Gh.ext_refl _ _) (fun _ _ _ _ q => q) hr (WK.refl _ _) ?_
        rw [hVu]; exact .ofTup (.nil G)
      · obtain ⟨val, h1, h2⟩ := op_p (P := C.K.P) (K := C.K) (opK_val_p hg) hr hq hops
        have hstep : step C.K.P (lone f fs w) = .next (lone (f.finish val) fs w) := step_op hm ht ho (hwant true hw) (.inr hnd) _ _ _ (by simp [stepG.apply, h1])
        exact next hstep (Gh.ext_refl _ _) (fun _ _ _ _ q => q) hr (WK.refl _ _) h2
      · obtain ⟨val, h1, h2⟩ := op_p (P := C.K.P) (K := C.K) (opK_val_r hg) hr (hq rfl) hops
        have hstep : step C.K.P (lone f fs w) = .next (lone (f.finish val) fs w) := step_op hm ht ho (hwant true hw) (.inr hnd) _ _ _ (by simp [stepG.apply, h1])
        exact next hstep (Gh.ext_refl _ _) (fun _ _ _ _ q => q) hr (WK.refl _ _) h2
      · obtain ⟨s, hs1, hmade⟩ := op_m (C := C) (G := G) (P := C.K.P) (K := C.K) (by rw [hg]; rfl) hq hops
        obtain ⟨ob', val, k, sz, h1, h2⟩ := hmade w
        have hid := v3 u id hI
        have hGe : Gh.ext lo G (G.add id ⟨w.heap.size, 0, k, sz⟩) := ⟨Gh.le_add _ hGn, fun j hj hn => by rw [Gh.add_other _ _ (by omega)]; exact hn⟩
        have h3 := h2 (G.add id ⟨w.heap.size, 0, k, sz⟩) id hGe.1 (Gh.add_same _ _ _)
        have hr1 : HR C B (G.add id ⟨w.heap.size, 0, k, sz⟩) H (w.alloc ob') := hr.bear hid.2 hGn (hget rfl) (by rw [heap_push_size]; omega) (by rw [heap_push_size]; show w.heap.size < _; omega) (fun b hb _ => heap_push_other hb) hr.bs
          (fun j p y q1 q2 q3 e => by have := hr.lt j y q3; rw [e] at this; exact absurd this (Nat.lt_irrefl _)) h3.2
        have hstep : step C.K.P (lone f fs w) = .next (lone (f.finish val) fs (w.alloc ob')) := step_op hm ht ho (hwant true hw) (.inr hnd) _ _ _ (by rw [hs1]; simp [stepG.apply, h1])
        refine next hstep hGe (fun j i hj hIj hn => ?_) hr1 (WK.alloc w ob' hr.bs) (by rw [hVu]; exact h3.1)
        rw [Gh.add_other]
        · exact hn
        · intro e
          subst e
          exact hj (v4 j u _ hIj hI)

theorem firstA_spec {m d : Nat} {K : Kn} : ∀ {l : List (Nat × Oper)} {x : Nat × Oper} {l' : List (Nat × Oper)}, firstA K m d l = some (x, l') → isA K m d x.2 = true ∧ ∃ a b, l = a ++ x :: b ∧ l' = a ++ b
  | [], x, l', h => by cases h
  | y :: r, x, l', h => by
    have h : (bif isA K m d y.2 then some (y, r) else match firstA K m d r with | some (z, l) => some (z, y :: l) | none => none) = some (x, l') := h
    cases hy : isA K m d y.2 with
    | true => rw [hy] at h; cases h; exact ⟨hy, [], r, rfl, rfl⟩
    | false =>
      rw [hy, cond_false] at h
      split at h
      · next z l hz =>
        cases h
        obtain ⟨h1, a, b, h2, h3⟩ := firstA_spec hz
        exact ⟨h1, y :: a, b, by rw [h2]; rfl, by rw [h3]; rfl⟩
      · cases h

/-- A region that draws its order goes on. -/
theorem drawStep_sim (hK : KOK C.K) {ops : Array Oper} {k : List XItem} {k' : List Item} {fr : FR} {cs : List XFrame} {done : Nat} {rest : List (Nat × Oper)} {chk : List Ck} {loc : List (Nat × AV)} {base : Tr AV} {f : Frame} {fs : List Frame} {is : List Nat} {lo : Nat}
    (hr : HR C B G H w) (hn : n0 ≤ lo) (hlo : lo ≤ H.nx) (hB : FrB C G fr f) (ht : f.todo = .inRegion ops is :: k') (hre : rest = (numbered ops.toList 0).filter fun x => !done.testBit x.1) (hD : DrawR C fr.fn G H lo H.nx ops fr.m fr.d done chk ⟨loc, base⟩ is f.tmps true)
    (hk : ItsR C fr.fn G k k') (hm : f.mode = .run) (hs : StackR C G n0 cs0 lo cs fs) (hb : Bot f0 fr cs) : Reach C B f0 cs0 n0 G w (lone f fs w) (drawStep C.K ops fr.m fr.d k fr cs H base done rest chk loc) := by
  unfold drawStep
  split
  · trivial
  · next H1 loc1 base1 done1 rest1 chk1 hp =>
    obtain ⟨hr1, hnx, hD1, hre1, hcl⟩ := pass_sim rest H ⟨loc, base⟩ done [] chk hr hlo hD (by simpa using hre) (fun x hx => by cases hx) hp
    obtain ⟨G2, w2, f2, is2, s1, s2, s3, s4, s5, s6, s7, s8, s9⟩ := catch_up (fs := fs) hK (Nat.le_trans hlo hnx) is G w f hr1 hB hm ht hD1
    have hs2 := hs.mono s2
    have hk2 := hk.mono s2.1
    have hd := drawOK_spec s8.ok
    split
    · -- all has run
      have hall : ∀ i, i < ops.size → done1.testBit i = true := by
        intro i hi
        cases hq : done1.testBit i with
        | true => rfl
        | false =>
          have : (i, ops[i]) ∈ (numbered ops.toList 0).filter fun x => !done1.testBit x.1 := List.mem_filter.2 ⟨numbered_mem.2 (Array.getElem?_eq_getElem hi), by simp [hq]⟩
          rw [← hre1] at this
          cases this
      have his : is2 = [] := by
        cases is2 with
        | nil => rfl
        | cons i r =>
          have h1 := s9 i r rfl
          rw [hall i (s8.lt i List.mem_cons_self)] at h1
          cases h1
      subst his
      have hstep := step_end_region (P := C.K.P) (fs := fs) (w := w2) s6 s7
      obtain ⟨en0, V, I, v1, v2, v3, v4, v5⟩ := s8.vals
      have hT : TRl G2 fr.m fr.d ⟨loc1, base1⟩ f2.tmps := by
        intro t
        by_cases hq : ∃ q, Wrt ops q t
        · obtain ⟨q, hw⟩ := hq
          obtain ⟨p, hp1, _⟩ := id hw
          have hql := lt_of_op hp1
          rw [(v2 t).1 q (hall q hql) hw]
          exact (v1 t).1 q ⟨hql, by simp⟩ hw
        · rw [(v2 t).2 fun q _ hw => hq ⟨q, hw⟩]
          exact (v1 t).2 fun q _ hw => hq ⟨q, hw⟩
      exact .of ⟨G2, _, s1.trans (.one hstep), Gh.ext_le s2 hn, s4, _, fs, w2, lo, rfl, s3, hn, Nat.le_trans hlo hnx, ⟨s5.todo, .plain hT.base hk2⟩, s6, hs2, hb⟩
    · split
      · trivial
      · next i o rest2 hfa =>
        obtain ⟨hisA, a, b, hab, hr2⟩ := firstA_spec hfa
        have hmem : (i, o) ∈ (numbered ops.toList 0).filter fun x => !done1.testBit x.1 := by rw [← hre1, hab]; simp
        obtain ⟨hm1, hm2⟩ := List.mem_filter.1 hmem
        have ho : ops[i]? = some o := numbered_mem.1 hm1
        have hdn : done1.testBit i = false := by simpa using hm2
        have hacto : actOp o.op = true := by
          unfold isA at hisA
          split at hisA
          · next g hg => exact act_opK.1 ⟨g, hg⟩
          · cases hisA
        cases hrdy : readyX o done1 with
        | false => trivial
        | true =>
          rw [cond_true]
          -- the machine's next one is this one
          have hi2 : i ∈ is2 := s8.sub i (lt_of_op ho) hdn
          obtain ⟨i', r, his⟩ : ∃ i' r, is2 = i' :: r := by
            cases is2 with
            | nil => cases hi2
            | cons i' r => exact ⟨i', r, rfl⟩
          subst his
          have hdn' := s9 i' r rfl
          have hil' := s8.lt i' List.mem_cons_self
          have ho' : ops[i']? = some ops[i'] := Array.getElem?_eq_getElem hil'
          have hdir' : ∀ e ∈ directs ops[i'], done1.testBit e = true := fun e he => by
            cases hq : done1.testBit e with
            | true => rfl
            | false => exact absurd (s8.sub e (by have := hd.dlt i' _ ho' e he; omega) hq) (s8.lin2 [] i' r _ rfl ho' e he)
          have hact' : actOp ops[i'].op = true := by
            have hmem' : (i', ops[i']) ∈ rest1 := by rw [hre1]; exact List.mem_filter.2 ⟨numbered_mem.2 ho', by simp [hdn']⟩
            rcases hcl _ hmem' with q | q
            · exact q
            · have h1 : readyX ops[i'] done1 = true := ready_iff.2 hdir'
              simp only at q
              rw [h1] at q; cases q
          have hii : i' = i := by
            rcases Nat.lt_trichotomy i' i with e | e | e
            · have := hd.acts ho ho' hacto hact' e
              have := hd.closed (S := fun q => done1.testBit q = true) (fun q p x y => s8.cl q p x y) i o ho (ready_iff.1 hrdy) i' this
              rw [hdn'] at this; cases this
            · exact e
            · have := hd.acts ho' ho hact' hacto e
              have := hd.closed (S := fun q => done1.testBit q = true) (fun q p x y => s8.cl q p x y) i' _ ho' hdir' i this
              rw [hdn] at this; cases this
          subst hii
          obtain ⟨en0, V, I, v1, v2, v3, v4, v5⟩ := id s8.vals
          have hlooks : Looks ops (Region.before ops).toList fr.m fr.d en0 V i' o ⟨loc1, base1⟩ := by
            intro t ht'
            refine ⟨fun q hq hbq => ?_, fun hno => ?_⟩
            · exact (v2 t).1 q (hd.closed (S := fun q => done1.testBit q = true) (fun q p x y => s8.cl q p x y) i' o ho (ready_iff.1 hrdy) q hbq) hq
            · refine (v2 t).2 fun q hqd hq => ?_
              have hqd : done1.testBit q = true := hqd
              have hne : q ≠ i' := fun e => by subst e; rw [hdn] at hqd; cases hqd
              rcases hd.look ho ht' hq hne with c | c
              · rw [hno q hq] at c; cases c
              · obtain ⟨p, hpo, _⟩ := hq
                have := hd.closed (S := fun q => done1.testBit q = true) (fun q p x y => s8.cl q p x y) q p hpo (s8.cl q p hqd hpo) i' c
                rw [hdn] at this; cases this
          have hlook := s8.look ho v1 hlooks
          have hops : ∀ x ∈ o.op.operands.toList, OpR G2 fr.m fr.d ⟨loc1, base1⟩ f2.eval x := fun x hx => by
            rw [eval_eq]
            exact rd_sound s3 fun t e => by subst e; exact hlook t (lookT_ops hx)
          have hwant : ∀ b, wantedX fr.m fr.d ops o ⟨loc1, base1⟩ = some b → Region.wanted o (yielded ops f2.tmps) = b := fun b hb => wanted_sound hb s8.dst s5.sz (fun j w' t hg htt => hlook t (lookT_guard hg htt))
          have hre2 : rest2 = (numbered ops.toList 0).filter fun x => !(Nat.lor done1 (Nat.pow 2 i')).testBit x.1 := by
            have e1 : (numbered ops.toList 0).filter (fun x => !(Nat.lor done1 (Nat.pow 2 i')).testBit x.1) = rest1.filter (fun x => !decide (i' = x.1)) := by
              rw [hre1, List.filter_filter]
              refine List.filter_congr fun x _ => ?_
              rw [lor_bit]
              cases done1.testBit x.1 <;> cases decide (i' = x.1) <;> rfl
            have hsort := (numbered_sorted ops).sublist (List.filter_sublist (p := fun x => !done1.testBit x.1))
            rw [← hre1, hab, List.pairwise_append] at hsort
            obtain ⟨q1, q2, q3⟩ := hsort
            rw [e1, hab, List.filter_append, List.filter_cons, hr2]
            have h1 : a.filter (fun x => !decide (i' = x.1)) = a := List.filter_eq_self.2 fun x hx => by
              have := q3 x hx (i', o) List.mem_cons_self
              have : i' ≠ x.1 := by simp only at this; omega
              simp [this]
            have h2 : b.filter (fun x => !decide (i' = x.1)) = b := List.filter_eq_self.2 fun x hx => by
              have := (List.pairwise_cons.1 q2).1 x hx
              have : i' ≠ x.1 := by simp only at this; omega
              simp [this]
            rw [h1, h2]
            simp
          have hDw := s8.mono (Gh.ext_refl H1.nx G2) (H' := H1)
          have hF : FrR C G2 H1 lo H1.nx base1 (.inDrawW ops done1 i' o rest2 chk1 loc1 :: k) fr false f2 := ⟨s5, by rw [s7]; exact .drawW ho hacto hdn hre2 hDw hk2⟩
          split
          · next hw =>
            split
            · next g hg =>
              split
              · next nx hq =>
                have hx : NxR C B G2 H1 w2 C.K.P (execOp f2.eval o) nx := op_a hK (by rw [hg]; rfl) s3 hq hops
                have := doNx_sim hK s3 hn (Nat.le_trans hlo hnx) hF s6 hs2 hb hx (acts_of (fs := fs) (w := w2) s5 s6 s7 ho (hwant true hw) hg hq)
                exact this.pre s1 (Gh.ext_le s2 hn) s4
              · trivial
            · trivial
          · next hw =>
            have hstep := step_skip_op (P := C.K.P) (fs := fs) (w := w2) s6 s7 ho (hwant false hw)
            exact .of ⟨G2, _, s1.trans (.one hstep), Gh.ext_le s2 hn, s4, finish_sim s3 hn (Nat.le_trans hlo hnx) (Nat.le_refl _) hF s6 hs2 hb (.ofTup (.nil G2))⟩
          · trivial
end
end Go.X

/- The interpreter is right, part 26: the orders that may be drawn. -/
namespace Go.X
open Go
section
variable {ops : Array Oper}

def lis (listed : Array Bool) (i : Nat) : Bool := listed.getD i false
theorem lis_set {listed : Array Bool} {i j : Nat} (hi : i < listed.size) : lis (listed.setIfInBounds i true) j = (decide (i = j) || lis listed j) := by
  unfold lis
  by_cases h : i = j
  · subst h; simp [Array.getD_eq_getD_getElem?, hi]
  · simp [Array.getD_eq_getD_getElem?, Array.getElem?_setIfInBounds, h]
theorem mem_ready {listed : Array Bool} (hsz : listed.size = ops.size) {i : Nat} : i ∈ Region.ready .any ops listed ↔ ∃ o, ops[i]? = some o ∧ lis listed i = false ∧ ∀ e ∈ directs o, lis listed e = true := by
  unfold Region.ready
  rw [List.mem_filter, List.mem_range]
  constructor
  · rintro ⟨hi, h⟩
    have ho : ops[i]? = some ops[i] := Array.getElem?_eq_getElem hi
    rw [ho] at h
    simp only [Bool.and_eq_true, Option.map_some, Option.getD_some] at h
    refine ⟨ops[i], ho, ?_, fun e he => ?_⟩
    · have := h.1
      have hl : i < listed.size := by omega
      simp only [Array.getD_eq_getD_getElem?, Array.getElem?_eq_getElem hl, Option.getD_some, Bool.not_eq_true'] at this
      simp [lis, Array.getD_eq_getD_getElem?, hl, this]
    · obtain ⟨e', he', rfl⟩ := List.mem_map.1 he
      obtain ⟨h1, h2⟩ := List.mem_filter.1 he'
      have := Array.all_eq_true_iff_forall_mem.1 h.2 e' (Array.mem_toList_iff.1 h1)
      simpa [h2, lis] using this
  · rintro ⟨o, ho, h1, h2⟩
    have hi := lt_of_op ho
    have hl : i < listed.size := by omega
    refine ⟨hi, ?_⟩
    rw [ho]
    simp only [Bool.and_eq_true, Option.map_some, Option.getD_some]
    constructor
    · simp only [Array.getD_eq_getD_getElem?, Array.getElem?_eq_getElem hl, Option.getD_some, Bool.not_eq_true']
      simpa [lis, Array.getD_eq_getD_getElem?, hl] using h1
    · refine Array.all_eq_true_iff_forall_mem.2 fun e he => ?_
      cases hb : Region.binds .any e with
      | false => rfl
      | true =>
        have := h2 e.on (List.mem_map.2 ⟨e, List.mem_filter.2 ⟨Array.mem_toList_iff.2 he, hb⟩, rfl⟩)
        simpa [lis] using this
theorem none_ready (hd : ∀ (i : Nat) (o : Oper), ops[i]? = some o → ∀ e ∈ directs o, e < i) {listed : Array Bool} (hsz : listed.size = ops.size) (hr : Region.ready .any ops listed = []) : ∀ i, i < ops.size → lis listed i = true := by
  intro i
  induction i using Nat.strongRecOn with
  | _ i ih =>
    intro hi
    cases q : lis listed i with
    | true => rfl
    | false =>
      have ho : ops[i]? = some ops[i] := Array.getElem?_eq_getElem hi
      have hm : i ∈ Region.ready .any ops listed := (mem_ready hsz).2 ⟨ops[i], ho, q, fun e he => by
        have := hd i _ ho e he
        exact ih e this (by omega)⟩
      rw [hr] at hm; cases hm
def unl (n : Nat) (listed : Array Bool) : Nat := ((List.range n).filter fun i => !lis listed i).length
theorem filter_lt {l : List Nat} {f g : Nat → Bool} (hl : l.Nodup) {i : Nat} (hi : i ∈ l) (hf : f i = true) (hg : g i = false) (hs : ∀ j, j ≠ i → g j = f j) : (l.filter g).length + 1 = (l.filter f).length := by
  induction l with
  | nil => simp at hi
  | cons x r ih =>
    rw [List.nodup_cons] at hl
    by_cases hx : x = i
    · subst hx
      have : r.filter g = r.filter f := List.filter_congr fun y hy => hs y (fun q => hl.1 (q ▸ hy))
      simp [List.filter_cons, hf, hg, this]
    · have hir := (List.mem_cons.1 hi).resolve_left (Ne.symm hx)
      have := ih hl.2 hir
      simp only [List.filter_cons, hs x hx]
      cases f x <;> simp <;> omega
theorem unl_set {n : Nat} {listed : Array Bool} (hsz : listed.size = n) {i : Nat} (hi : i < n) (hl : lis listed i = false) : unl n (listed.setIfInBounds i true) + 1 = unl n listed := by
  refine filter_lt List.nodup_range (List.mem_range.2 hi) (by simp [hl]) (by rw [lis_set (by omega)]; simp) (fun j hj => ?_)
  rw [lis_set (by omega)]
  simp [Ne.symm hj]
theorem unl_zero {n : Nat} {listed : Array Bool} (h : unl n listed = 0) : ∀ i, i < n → lis listed i = true := by
  intro i hi
  cases q : lis listed i with
  | true => rfl
  | false =>
    have hm : i ∈ (List.range n).filter (fun i => !lis listed i) := List.mem_filter.2 ⟨List.mem_range.2 hi, by simp [q]⟩
    rw [List.eq_nil_of_length_eq_zero h] at hm; cases hm

theorem go_spec (hd : ∀ (i : Nat) (o : Oper), ops[i]? = some o → ∀ e ∈ directs o, e < i) : ∀ (fuel t : Nat) (listed : Array Bool), listed.size = ops.size → unl ops.size listed ≤ fuel →
    (Region.linearise.go .any ops fuel t listed []).Nodup ∧ (∀ i, i ∈ Region.linearise.go .any ops fuel t listed [] ↔ (i < ops.size ∧ lis listed i = false)) ∧
      ∀ a i b o, Region.linearise.go .any ops fuel t listed [] = a ++ i :: b → ops[i]? = some o → ∀ e ∈ directs o, e ∉ i :: b
  | 0, t, listed, hsz, hf => by
    have hall := unl_zero (n := ops.size) (listed := listed) (by omega)
    refine ⟨by simp [Region.linearise.go], fun i => ⟨fun h => by simp [Region.linearise.go] at h, fun ⟨h1, h2⟩ => ?_⟩, fun a i b o h => by simp [Region.linearise.go] at h⟩
    rw [hall i h1] at h2; cases h2
  | fuel + 1, t, listed, hsz, hf => by
    have e0 : Region.linearise.go .any ops (fuel + 1) t listed [] = (match (Region.ready .any ops listed)[t % (Region.ready .any ops listed).length]? with
      | some i => Region.linearise.go .any ops fuel (t / (Region.ready .any ops listed).length) (listed.setIfInBounds i true) [i]
      | none => [].reverse) := rfl
    rw [e0]
    cases hi : (Region.ready .any ops listed)[t % (Region.ready .any ops listed).length]? with
    | none =>
      have hnil : Region.ready .any ops listed = [] := by
        cases hr : Region.ready .any ops listed with
        | nil => rfl
        | cons x xs =>
          rw [hr] at hi
          have hlt : t % (x :: xs).length < (x :: xs).length := Nat.mod_lt _ (by simp)
          simp at hi
          simp at hlt
          omega
      have hall := none_ready hd hsz hnil
      refine ⟨by simp, fun i => ⟨fun h => by simp at h, fun ⟨h1, h2⟩ => ?_⟩, fun a i b o h => by simp at h⟩
      rw [hall i h1] at h2; cases h2
    | some i =>
      obtain ⟨o, ho, hl, hdl⟩ := (mem_ready hsz).1 (List.mem_of_getElem? hi)
      have hio := lt_of_op ho
      have hu := unl_set hsz hio hl
      obtain ⟨h1, h2, h3⟩ := go_spec hd fuel (t / (Region.ready .any ops listed).length) (listed.setIfInBounds i true) (by simpa using hsz) (by omega)
      simp only []
      rw [linearise_go_acc, List.reverse_singleton, List.singleton_append]
      have hls : ∀ j, lis (listed.setIfInBounds i true) j = (decide (i = j) || lis listed j) := fun j => lis_set (by omega)
      have hni : i ∉ Region.linearise.go .any ops fuel (t / (Region.ready .any ops listed).length) (listed.setIfInBounds i true) [] := fun hm => by
        have := ((h2 i).1 hm).2
        rw [hls] at this; simp at this
      refine ⟨List.nodup_cons.2 ⟨hni, h1⟩, fun j => ?_, fun a j b p h hp e he => ?_⟩
      · rw [List.mem_cons, h2 j, hls]
        constructor
        · rintro (e | ⟨q1, q2⟩)
          · subst e; exact ⟨hio, hl⟩
          · rw [Bool.or_eq_false_iff] at q2; exact ⟨q1, q2.2⟩
        · rintro ⟨q1, q2⟩
          by_cases e : j = i
          · exact .inl e
          · exact .inr ⟨q1, by rw [q2]; simp [Ne.symm e]⟩
      · cases a with
        | nil =>
          simp only [List.nil_append, List.cons.injEq] at h
          obtain ⟨rfl, rfl⟩ := h
          rw [ho] at hp; cases hp
          intro hm
          rcases List.mem_cons.1 hm with q | q
          · subst q
            have := hdl e he
            rw [hl] at this; cases this
          · have := ((h2 e).1 q).2
            rw [hls, hdl e he] at this; simp at this
        | cons x a =>
          simp only [List.cons_append, List.cons.injEq] at h
          exact h3 a j b p h.2 hp e he
theorem linearise_spec (hd : ∀ (i : Nat) (o : Oper), ops[i]? = some o → ∀ e ∈ directs o, e < i) (t : Nat) :
    (Region.linearise .any ops t).Nodup ∧ (∀ i, i ∈ Region.linearise .any ops t ↔ i < ops.size) ∧ ∀ a i b o, Region.linearise .any ops t = a ++ i :: b → ops[i]? = some o → ∀ e ∈ directs o, e ∉ i :: b := by
  have h0 : ∀ i, lis (Array.replicate ops.size false) i = false := fun i => by
    unfold lis
    by_cases h : i < ops.size <;> simp [Array.getD_eq_getD_getElem?, h]
  obtain ⟨h1, h2, h3⟩ := go_spec hd ops.size t (Array.replicate ops.size false) (by simp) (by unfold unl; exact Nat.le_trans (List.length_filter_le _ _) (by simp))
  refine ⟨h1, fun i => ?_, h3⟩
  have := h2 i
  rw [h0] at this
  simpa [Region.linearise] using this
end

section
variable {C : Cx} {G : Gh} {H : Hp}
/-- Where such a region begins. -/
theorem DrawR.start {fn : FuncId} {ops : Array Oper} {lo hi m d : Nat} {base : Tr AV} {tmps : Array Value} (hdst : ops.toList.all (dstOK (C.nt fn)) = true) (hok : drawOK ops = true) (hb : BRel G m d base tmps) (t : Nat) :
    DrawR C fn G H lo hi ops m d 0 [] ⟨[], base⟩ (Region.linearise .any ops t) tmps true := by
  have hd := drawOK_spec hok
  obtain ⟨h1, h2, h3⟩ := linearise_spec hd.dlt t
  refine ⟨hdst, hok, h1, fun i hi => (h2 i).1 hi, fun i o hi hn => absurd ((h2 i).2 hi) hn, h3, fun i hi _ => (h2 i).2 hi, fun i o _ _ hb => (by simp at hb), fun i o hb => (by simp at hb), ⟨[], base⟩, fun _ => .bad, fun _ => none, ?_, ?_, fun _ _ h => (nomatch h), fun _ _ _ h => (nomatch h), fun u hb => (by simp at hb)⟩
  · intro t
    exact ⟨fun q hq => absurd ((h2 q).2 hq.1) hq.2, fun _ => hb.tr t⟩
  · intro t
    exact ⟨fun q hq => by simp at hq, fun _ => rfl⟩
end
end Go.X

/- The interpreter is right, part 27: control. -/
namespace Go.X
open Go
section
variable {C : Cx} {B : Nat} {G : Gh} {H : Hp} {w : World} {f0 : FuncId} {cs0 : List Frame} {n0 : Nat}

theorem okC_iff {fn : FuncId} {c : Code} : C.okC fn c ↔ okCode (C.nt fn) c = true := Iff.rfl
theorem okC_seq {fn : FuncId} {a b : Code} : C.okC fn (.seq a b) ↔ C.okC fn a ∧ C.okC fn b := by simp [Cx.okC, okCode]
theorem okC_cond {fn : FuncId} {v : Operand} {a b : Code} : C.okC fn (.cond v a b) ↔ C.okC fn a ∧ C.okC fn b := by simp [Cx.okC, okCode]

theorem exit_rel {fn : FuncId} {id : Nat} : ∀ {k : List XItem} {k' : List Item}, ItsR C fn G k k' → (∀ r, xexitTo id k = some r → ∃ r', exitTo id k' = some r' ∧ ItsR C fn G r r') ∧ (xexitTo id k = none → exitTo id k' = none)
  | [], k', h => by cases h; exact ⟨fun r e => (by cases e), fun _ => rfl⟩
  | x :: k, k', h => by
    cases h with | @cons _ y _ k'' hi ht =>
    have ih := exit_rel (id := id) ht
    cases hi with
    | inBlock id' =>
      have e1 : xexitTo id (.inBlock id' :: k) = bif Nat.beq id' id then some k else xexitTo id k := rfl
      have e2 : exitTo id (.inBlock id' :: k'') = if id' == id then some k'' else exitTo id k'' := rfl
      rw [e1, e2, nbeq_eq]
      by_cases h : id' = id
      · subst h
        simp only [decide_true, cond_true, beq_self_eq_true, if_true]
        exact ⟨fun r e => (by cases e; exact ⟨k'', rfl, ht⟩), fun e => (by cases e)⟩
      · simp only [decide_eq_false h, cond_false, beq_iff_eq, h, if_false]
        exact ih
    | _ => exact ih
theorem findLabel_ok {fn : FuncId} {l : Nat} : ∀ {c r : Code}, C.okC fn c → findLabel c l = some r → C.okC fn r
  | .seq a b, r, h, hf => by
    obtain ⟨h1, h2⟩ := okC_seq.1 h
    simp only [findLabel] at hf
    split at hf
    · next rest hr => cases hf; exact okC_seq.2 ⟨findLabel_ok h1 hr, h2⟩
    · exact findLabel_ok h2 hf
  | .label l', r, h, hf => by
    simp only [findLabel] at hf
    split at hf
    · cases hf; rfl
    · cases hf
  | .skip, r, h, hf => by simp [findLabel] at hf
  | .region _ _ _, r, h, hf => by simp [findLabel] at hf
  | .cond _ _ _, r, h, hf => by simp [findLabel] at hf
  | .block _ _, r, h, hf => by simp [findLabel] at hf
  | .loop _, r, h, hf => by simp [findLabel] at hf
  | .rangeFunc _ _ _ _, r, h, hf => by simp [findLabel] at hf
  | .exit _, r, h, hf => by simp [findLabel] at hf
  | .scope _, r, h, hf => by simp [findLabel] at hf
  | .goto _, r, h, hf => by simp [findLabel] at hf
  | .ret, r, h, hf => by simp [findLabel] at hf
  | .refuse _, r, h, hf => by simp [findLabel] at hf
theorem goto_rel {fn : FuncId} {l : Nat} : ∀ {k : List XItem} {k' : List Item}, ItsR C fn G k k' → (∀ r, xgotoIn l k = some r → ∃ r', gotoIn l k' = some r' ∧ ItsR C fn G r r') ∧ (xgotoIn l k = none → gotoIn l k' = none)
  | [], k', h => by cases h; exact ⟨fun r e => (by cases e), fun _ => rfl⟩
  | x :: k, k', h => by
    cases h with | @cons _ y _ k'' hi ht =>
    have ih := goto_rel (l := l) ht
    cases hi with
    | inScope c hc =>
      simp only [xgotoIn, gotoIn]
      cases hf : findLabel c l with
      | some rest => exact ⟨fun r e => (by cases e; exact ⟨_, rfl, .cons (.code _ (findLabel_ok hc hf)) (.cons (.inScope c hc) ht)⟩), fun e => (by cases e)⟩
      | none => exact ih
    | _ => exact ih

/-! ### A frame is left -/
def leaveG (P : Program) (f : Frame) (fs : List Frame) (w : World) (jump : Option Code) : GStep :=
  match f.roundOf with
  | none => if jump matches none | some .ret then .go { frame := { f with mode := .returning }, callers := fs, status := .running, dying := none } w else .ended (.stuck "exit, goto: no such block or label" (f.pos P)) w
  | some l =>
    let (r, es) := (Instr.endRound l jump).runT P w #[]
    GStep.after (seen P f.fn es) <| match r with
    | .ok v w => Go.doReturn P true f fs none v w
    | .halt _ w => .ended (.stuck "range over a function: no such loop" (f.pos P)) w

theorem doReturn_normal {P : Program} {f c : Frame} {fs : List Frame} {v : Value} {w : World} (hk : f.kind = .normal) : Go.doReturn P true f (c :: fs) none v w = .go { frame := c.finish v, callers := fs, status := .running, dying := none } w := by
  simp [Go.doReturn, hk]
theorem doReturn_deferred {P : Program} {f c : Frame} {fs : List Frame} {v : Value} {w : World} (hk : f.kind = .deferred) (hm : c.mode = .returning) : Go.doReturn P true f (c :: fs) none v w = .go { frame := c, callers := fs, status := .running, dying := none } w := by
  simp [Go.doReturn, hk, hm]

/-- A value is given back to the caller. -/
theorem ret_sim (hr : HR C B G H w) (hn0 : n0 ≤ H.nx) {hi : Nat} (hhi : hi ≤ H.nx) {fr : FR} {cs : List XFrame} {f : Frame} {fs : List Frame} (hB : FrB C G fr f) (hs : StackR C G n0 cs0 hi cs fs) (hb : Bot f0 fr cs) {v : AV} {u : Value} (hv : VRel G v u) {m : Machine}
    (hne : cs ≠ []) (hst : ∀ f' fs' w', Go.doReturn C.K.P true f fs none u w = .go { frame := f', callers := fs', status := .running, dying := none } w' → step C.K.P m = .next (lone f' fs' w')) : Reach C B f0 cs0 n0 G w m (doReturn H fr.kind cs v) := by
  cases hs with
  | nil => exact absurd rfl hne
  | @run _ lo H0 x fx cs fs hl hlh hm hm' hF t =>
    obtain ⟨xb, xt, xf, xm⟩ := x
    simp only at hm
    subst hm
    cases hk : fr.kind with
    | normal =>
      have hstep := hst _ _ _ (doReturn_normal (hB.kind.trans hk))
      refine .of ⟨G, _, .one hstep, Gh.ext_refl _ _, WK.refl _ _, ?_⟩
      exact finish_sim hr hl hlh hhi (hF.mono (Gh.ext_refl _ _)) hm' t hb hv
    | _ => exact trivial
  | @ret _ lo x fx cs fs hl hlh hm hm' hF hbr t =>
    obtain ⟨xb, xt, xf, xm⟩ := x
    simp only at hm
    subst hm
    cases hk : fr.kind with
    | deferred =>
      have hstep := hst _ _ _ (doReturn_deferred (hB.kind.trans hk) hm')
      exact .of ⟨G, _, .one hstep, Gh.ext_refl _ _, WK.refl _ _, _, fs, w, lo, rfl, hr, hl, Nat.le_trans hlh hhi, hF, hbr, hm', t, hb⟩
    | _ => exact trivial

theorem XLoop.with_eq (r : XLoop) (s : LoopState) (p : Option Code) : r.with s p = .loop { r with state := s, pending := p } := by cases r; rfl

theorem leave_sim (hr : HR C B G H w) {lo : Nat} (hn : n0 ≤ lo) (hlo : lo ≤ H.nx) {base : Tr AV} {fr : FR} {cs : List XFrame} {f : Frame} {fs : List Frame} (hB : FrB C G fr f) (hbr : BRel G fr.m fr.d base f.tmps) (hm : f.mode = .run) (hs : StackR C G n0 cs0 lo cs fs) (hb : Bot f0 fr cs) {jump : Option Code}
    (hj : ∀ (nt : Nat) c, jump = some c → okCode nt c = true) (hst : stepG.exec C.K.P true true f fs none w = leaveG C.K.P f fs w jump) : Reach C B f0 cs0 n0 G w (lone f fs w) (leave H base fr cs jump) := by
  unfold leave
  cases hro : fr.roundOf with
  | none =>
    have hro' : f.roundOf = none := by
      have := hB.round
      rw [hro] at this
      cases hq : f.roundOf with
      | none => rfl
      | some b => rw [hq] at this; exact this.elim
    have fin : (jump = none ∨ jump = some .ret) → Reach C B f0 cs0 n0 G w (lone f fs w) (.unw H base fr cs) := by
      intro hjm
      have hstep : step C.K.P (lone f fs w) = .next (lone { f with mode := .returning } fs w) := step_lone_go (by rw [stepG_run hm, hst]; rcases hjm with e | e <;> subst e <;> simp [leaveG, hro'])
      exact .of ⟨G, _, .one hstep, Gh.ext_refl _ _, WK.refl _ _, _, fs, w, lo, rfl, hr, hn, hlo, ⟨hB.fn, hB.m, hB.d, hB.sz, hB.defers, hB.kind, hB.knd, hB.round⟩, hbr, rfl, hs, hb⟩
    simp only
    split
    · exact fin (.inl rfl)
    · exact fin (.inr rfl)
    · trivial
  | some l =>
    simp only
    cases cs with
    | nil => trivial
    | cons c cs =>
      simp only
      have hrd := hB.round
      rw [hro] at hrd
      cases hro' : f.roundOf with
      | none => rw [hro'] at hrd; exact hrd.elim
      | some lb =>
        rw [hro'] at hrd
        obtain ⟨x, hx, hxb⟩ := hrd
        split
        · next xl hl =>
          obtain ⟨r, hh, hL⟩ := loop_rel hr hx hl
          obtain ⟨l1, l2, l3, l4, l5, l6, l7, l8, l9, l10, l11, l12, l13, l14⟩ := hL
          have key : ∀ (st : LoopState) (v : Bool), st = (if jump.isNone then .ready else .done) → v = jump.isNone → Reach C B f0 cs0 n0 G w (lone f fs w) (doReturn (H.upd l (xl.with st jump)) fr.kind (c :: cs) (.bool v)) := by
            intro st v hstt hvv
            obtain ⟨w', g1, g2, g3, g4⟩ := obj_write (P := C.K.P) hr (getLoop_inv hl) hx rfl hh (by simp) (ob' := .loop { r with state := st, pending := jump }) (o' := xl.with st jump) (fun w' hw' => by
              rw [XLoop.with_eq]
              exact ⟨_, hw', rfl, rfl, l3, l4, l5, l6, l7, l8, l9, l10, l11, l12, l13, fun cc hc => hj _ cc hc⟩)
            have hrun : (Instr.endRound lb jump).run C.K.P w = .ok (.bool jump.isNone) w' := by
              rw [← hxb]
              simp only [Instr.endRound, Sem.run_bind, run_getLoop hh, Result.andThen, ← hstt, g1]
              rfl
            refine (ret_sim (m := lone f fs w) g2 (Nat.le_trans hn hlo) hlo hB hs hb (.bool v) (by simp) (fun f' fs' w1 hd => ?_)).pre (.refl _ _) (Gh.ext_refl _ _) g3
            refine step_lone_go ?_
            rw [stepG_run hm, hst]
            simp only [leaveG, hro', Sem.runT_eq, hrun, GStep.bare_after, ← hvv]
            rw [hd]
            rfl
          split
          · rw [Hp.setK_eq]; exact key .ready true rfl rfl
          · rw [Hp.setK_eq]; exact key .done false rfl rfl
        · trivial

/-! ### A range over a function -/
theorem newE_inv {o : XObj} {r : E (Nat × Hp)} (h : (H.new o fun id H => .ok (id, H) : E (Nat × Hp)) = r) : (∃ s, r = .er s) ∨ (H.nx < 2 ^ dH ∧ r = .ok (H.nx, H.add o)) := by
  cases r with
  | er s => exact .inl ⟨s, rfl⟩
  | ok x =>
    obtain ⟨h1, h2⟩ := Hp.new_inv h
    exact .inr ⟨h1, h2.symm⟩
theorem rangeG_sim (hK : KOK C.K) (hr : HR C B G H w) {lo : Nat} (hn : n0 ≤ lo) (hlo : lo ≤ H.nx) {base : Tr AV} {fr : FR} {cs : List XFrame} {f : Frame} {fs : List Frame} (hB : FrB C G fr f) (hbr : BRel G fr.m fr.d base f.tmps) (hm : f.mode = .run) (hs : StackR C G n0 cs0 lo cs fs) (hb : Bot f0 fr cs)
    {k : List XItem} {k' : List Item} (hk : ItsR C fr.fn G k k') {fv : AV} {u : Value} (hv : VRel G fv u) {params : Array Tmp} {assign body : Code} (hps : ∀ t ∈ params, t < C.nt fr.fn) (hoa : C.okC fr.fn assign) (hob : C.okC fr.fn body) {ds : Nat} {dx : Blk} (hds : G ds = some dx) {mark : List XDef} {mark' : List Deferred} (hmk : DefsRel G mark mark')
    {m : Machine} (hst : ∀ w' lb, w'= w.alloc (.loop { state := .ready, pending := none, fn := f.fn, tmps := f.tmps, params := params, assign := assign, body := body, defers := dx.b }) → lb = w.heap.size →
      Acts C.K.P m { f with todo := .inRangeFunc lb :: k', defers := mark' ++ f.defers } fs (do let d ← resolve f.eval ⟨.value (.const u), #[.const (.func (.yield lb) #[] #[])], #[]⟩ 0; invoke d.target d.args) w') :
    Reach C B f0 cs0 n0 G w m (rangeG C.K fv params assign body base k fr cs ds mark H) := by
  unfold rangeG
  split
  · next l H' hl =>
    rcases newE_inv hl with ⟨s, e⟩ | ⟨hnx, e⟩
    · cases e
    · cases e
      split
      · next g a b =>
        obtain ⟨fv', cv, rfl, ha, hc⟩ := hv.fn_inv
        split
        · next n hinv =>
          obtain ⟨q1, q2, q3⟩ := hr.alloc hnx (o := .loop ⟨.ready, none, fr.fn, ⟨[], base⟩, params, assign, body, ds⟩) (ob := .loop { state := .ready, pending := none, fn := f.fn, tmps := f.tmps, params := params, assign := assign, body := body, defers := dx.b }) (x := ⟨w.heap.size, 0, 0, 0⟩) rfl
            ⟨_, heap_push_new, rfl, rfl, hB.fn.symm, rfl, rfl, rfl, ⟨dx, Gh.le_add _ hr.fresh _ _ hds, rfl⟩, rfl, by rw [← hB.m, ← hB.d]; exact hbr.mono (Gh.le_add _ hr.fresh), hB.sz, hoa, hob, hps, fun _ h => by cases h⟩
          have he : Gh.ext H.nx G (G.add H.nx ⟨w.heap.size, 0, 0, 0⟩) := Gh.ext_add _ hr.fresh
          have hargs : VRels (G.add H.nx ⟨w.heap.size, 0, 0, 0⟩) (a ++ [.yld H.nx]) (fv'.toList ++ [.func (.yield w.heap.size) #[] #[]]) := (ha.mono q2).append (.cons (.yld (Gh.add_same _ _ _)) (.nil _))
          have hx := invoke_sound hK q1 (.fn (hc.mono q2)) hargs hinv
          have hx' : NxR C B (G.add H.nx ⟨w.heap.size, 0, 0, 0⟩) (H.add (.loop ⟨.ready, none, fr.fn, ⟨[], base⟩, params, assign, body, ds⟩)) (w.alloc (.loop { state := .ready, pending := none, fn := f.fn, tmps := f.tmps, params := params, assign := assign, body := body, defers := dx.b })) C.K.P
              (do let d ← resolve f.eval ⟨.value (.const (.func g fv' cv)), #[.const (.func (.yield w.heap.size) #[] #[])], #[]⟩ 0; invoke d.target d.args) n := by
            refine hx.congr ?_
            have e1 : f.eval (.const (.func g fv' cv)) = .func g fv' cv := rfl
            have e2 : f.eval (.const (.func (.yield w.heap.size) #[] #[])) = .func (.yield w.heap.size) #[] #[] := rfl
            simp only [resolve, Deferred.ofValue, e1, e2]
            have e3 : (fv'.toList ++ [Value.func (.yield w.heap.size) #[] #[]]).toArray = fv' ++ #[Value.func (.yield w.heap.size) #[] #[]] := by apply Array.ext'; simp
            rw [e3]
            simp [e2]
          have hF : FrR C (G.add H.nx ⟨w.heap.size, 0, 0, 0⟩) (H.add (.loop ⟨.ready, none, fr.fn, ⟨[], base⟩, params, assign, body, ds⟩)) lo (H.add (.loop ⟨.ready, none, fr.fn, ⟨[], base⟩, params, assign, body, ds⟩)).nx base (.inRF H.nx :: k) (fr.push mark) false
              { f with todo := .inRangeFunc w.heap.size :: k', defers := mark' ++ f.defers } := by
            obtain ⟨xfn, xm, xd, xds, xk, xr⟩ := fr
            exact ⟨⟨hB.fn, hB.m, hB.d, hB.sz, (hmk.mono q2).append (hB.defers.mono q2), hB.kind, hB.knd, hB.round.mono q2⟩, .plain (hbr.mono q2) (.cons (.inRF (Gh.add_same _ _ _)) (hk.mono q2))⟩
          have hb' : Bot f0 (fr.push mark) cs := by
            obtain ⟨xfn, xm, xd, xds, xk, xr⟩ := fr
            cases cs <;> exact hb
          have := doNx_sim (m := m) hK q1 hn (Nat.le_trans hlo (Nat.le_succ _)) hF hm (hs.mono (Gh.ext_le he hlo)) hb' hx' (fun _ => hst _ _ rfl rfl)
          exact this.pre (.refl _ _) (Gh.ext_le he (Nat.le_trans hn hlo)) q3
        · trivial
      · trivial
  · trivial
end
end Go.X

/- The interpreter is right, part 28: code; a step. -/
namespace Go.X
open Go
section
variable {C : Cx} {B : Nat} {G : Gh} {H : Hp} {w : World} {f0 : FuncId} {cs0 : List Frame} {n0 : Nat}

theorem rangeF_sim (hK : KOK C.K) (hr : HR C B G H w) {lo : Nat} (hn : n0 ≤ lo) (hlo : lo ≤ H.nx) {base : Tr AV} {fr : FR} {cs : List XFrame} {f : Frame} {fs : List Frame} (hB : FrB C G fr f) (hbr : BRel G fr.m fr.d base f.tmps) (hm : f.mode = .run) (hs : StackR C G n0 cs0 lo cs fs) (hb : Bot f0 fr cs)
    {k : List XItem} {k' : List Item} (hk : ItsR C fr.fn G k k') {fo : Operand} {params : Array Tmp} {assign body : Code} (hps : ∀ t ∈ params, t < C.nt fr.fn) (hoa : C.okC fr.fn assign) (hob : C.okC fr.fn body) (ht : f.todo = .code (.rangeFunc fo params assign body) :: k') :
    Reach C B f0 cs0 n0 G w (lone f fs w) (rangeF C.K ((rd fr.m fr.d fo).un ⟨[], base⟩) params assign body H base k fr cs) := by
  have hv : OpR G fr.m fr.d ⟨[], base⟩ f.eval fo := by rw [eval_eq]; exact rd_tr hr hbr.tr fo
  -- the machine's step
  have step1 : ∀ (w1 : World) (lb : Nat) (mark' : List Deferred), (Instr.enterLoop f.fn f.tmps params assign body f.roundOf).run C.K.P w = .ok (lb, mark') w1 →
      Acts C.K.P (lone f fs w) { f with todo := .inRangeFunc lb :: k', defers := mark' ++ f.defers } fs (do let d ← resolve f.eval ⟨.value (.const (f.eval fo)), #[.const (.func (.yield lb) #[] #[])], #[]⟩ 0; invoke d.target d.args) w1 := by
    intro w1 lb mark' hrun f' fs' w' h
    refine step_lone_go ?_
    rw [stepG_run hm]
    have e : (stepG.exec C.K.P true true f fs none w).bare = (stepG.apply C.K.P true { f with todo := .inRangeFunc lb :: k', defers := mark' ++ f.defers } fs none (do let d ← resolve f.eval ⟨.value (.const (f.eval fo)), #[.const (.func (.yield lb) #[] #[])], #[]⟩ 0; invoke d.target d.args) w1).bare := by
      unfold stepG.exec
      rw [ht]
      simp only [Sem.runT_eq, hrun, GStep.bare_after]
      rfl
    rw [e]; exact h
  unfold rangeF
  cases hro : fr.roundOf with
  | some l =>
    have hrd := hB.round
    rw [hro] at hrd
    cases hro' : f.roundOf with
    | none => rw [hro'] at hrd; exact hrd.elim
    | some lb =>
      rw [hro'] at hrd
      obtain ⟨x, hx, hxb⟩ := hrd
      simp only
      split
      · next xl hl =>
        obtain ⟨r, hh, hL⟩ := loop_rel hr hx hl
        obtain ⟨l1, l2, l3, l4, l5, l6, ⟨dx, hdx, hdb⟩, l8⟩ := hL
        refine rangeG_sim (mark' := []) hK hr hn hlo hB hbr hm hs hb hk hv hps hoa hob hdx .nil (fun w1 lb' hw1 hlb' => ?_)
        refine step1 w1 lb' [] ?_
        rw [hw1, hlb', hro', ← hxb]
        simp only [Instr.enterLoop, Sem.run_bind, run_getLoop hh, Result.andThen, hdb]
        rfl
      · trivial
  | none =>
    have hro' : f.roundOf = none := by
      have := hB.round
      rw [hro] at this
      cases hq : f.roundOf with
      | none => rfl
      | some b => rw [hq] at this; exact this.elim
    simp only
    split
    · next r H' hl =>
      rcases newE_inv hl with ⟨s, e⟩ | ⟨hnx, e⟩
      · cases e
      · cases e
        obtain ⟨q1, q2, q3⟩ := hr.alloc hnx (o := .deferred (some [])) (ob := .deferred (some [])) (x := ⟨w.heap.size, 0, 0, 0⟩) rfl ⟨_, heap_push_new, _, rfl, .nil⟩
        have he : Gh.ext H.nx G (G.add H.nx ⟨w.heap.size, 0, 0, 0⟩) := Gh.ext_add _ hr.fresh
        have := rangeG_sim (m := lone f fs w) (mark := [⟨.collected H.nx, []⟩]) (mark' := [{ target := .collected w.heap.size, args := #[] }]) hK q1 hn (Nat.le_trans hlo (Nat.le_succ _)) (hB.mono q2) (hbr.mono q2) hm (hs.mono (Gh.ext_le he hlo)) hb (hk.mono q2) (hv.mono q2) hps hoa hob (Gh.add_same _ _ _)
          (.cons ⟨.collected (Gh.add_same _ _ _), .nil _⟩ .nil) (fun w1 lb' hw1 hlb' => by
            refine step1 w1 lb' _ ?_
            rw [hw1, hlb', hro']
            rfl)
        exact this.pre (.refl _ _) (Gh.ext_le he (Nat.le_trans hn hlo)) q3
    · trivial

section
variable {P : Program} {f : Frame} {fs : List Frame} {k : List Item}
theorem st_skip (hm : f.mode = .run) (ht : f.todo = .code .skip :: k) : step P (lone f fs w) = .next (lone { f with todo := k } fs w) := step_lone_go (by rw [stepG_run hm]; simp [stepG.exec, ht])
theorem st_label {l : Nat} (hm : f.mode = .run) (ht : f.todo = .code (.label l) :: k) : step P (lone f fs w) = .next (lone { f with todo := k } fs w) := step_lone_go (by rw [stepG_run hm]; simp [stepG.exec, ht])
theorem st_inBlock {l : Nat} (hm : f.mode = .run) (ht : f.todo = .inBlock l :: k) : step P (lone f fs w) = .next (lone { f with todo := k } fs w) := step_lone_go (by rw [stepG_run hm]; simp [stepG.exec, ht])
theorem st_inScope {c : Code} (hm : f.mode = .run) (ht : f.todo = .inScope c :: k) : step P (lone f fs w) = .next (lone { f with todo := k } fs w) := step_lone_go (by rw [stepG_run hm]; simp [stepG.exec, ht])
theorem st_seq {a b : Code} (hm : f.mode = .run) (ht : f.todo = .code (.seq a b) :: k) : step P (lone f fs w) = .next (lone { f with todo := .code a :: .code b :: k } fs w) := step_lone_go (by rw [stepG_run hm]; simp [stepG.exec, ht])
theorem st_cond {c : Operand} {a b : Code} {t : Bool} (hm : f.mode = .run) (ht : f.todo = .code (.cond c a b) :: k) (hc : f.eval c = .bool t) : step P (lone f fs w) = .next (lone { f with todo := .code (if t then a else b) :: k } fs w) := step_lone_go (by rw [stepG_run hm]; simp [stepG.exec, ht, hc])
theorem st_block {id : Nat} {c : Code} (hm : f.mode = .run) (ht : f.todo = .code (.block id c) :: k) : step P (lone f fs w) = .next (lone { f with todo := .code c :: .inBlock id :: k } fs w) := step_lone_go (by rw [stepG_run hm]; simp [stepG.exec, ht])
theorem st_loop {c : Code} (hm : f.mode = .run) (ht : f.todo = .code (.loop c) :: k) : step P (lone f fs w) = .next (lone { f with todo := .code c :: .inLoop c :: k } fs w) := step_lone_go (by rw [stepG_run hm]; simp [stepG.exec, ht])
theorem st_inLoop {c : Code} (hm : f.mode = .run) (ht : f.todo = .inLoop c :: k) : step P (lone f fs w) = .next (lone { f with todo := .code c :: .inLoop c :: k } fs w) := step_lone_go (by rw [stepG_run hm]; simp [stepG.exec, ht])
theorem st_scope {c : Code} (hm : f.mode = .run) (ht : f.todo = .code (.scope c) :: k) : step P (lone f fs w) = .next (lone { f with todo := .code c :: .inScope c :: k } fs w) := step_lone_go (by rw [stepG_run hm]; simp [stepG.exec, ht])
theorem st_exit {id : Nat} {r : List Item} (hm : f.mode = .run) (ht : f.todo = .code (.exit id) :: k) (he : exitTo id k = some r) : step P (lone f fs w) = .next (lone { f with todo := r } fs w) := step_lone_go (by rw [stepG_run hm]; simp [stepG.exec, ht, he])
theorem st_goto {l : Nat} {r : List Item} (hm : f.mode = .run) (ht : f.todo = .code (.goto l) :: k) (he : gotoIn l k = some r) : step P (lone f fs w) = .next (lone { f with todo := r } fs w) := step_lone_go (by rw [stepG_run hm]; simp [stepG.exec, ht, he])
theorem st_region {id : Nat} {ops : Array Oper} (hm : f.mode = .run) (ht : f.todo = .code (.region id ops false) :: k) : step P (lone f fs w) = .next (lone { f with todo := .inRegion ops (List.range ops.size) :: k } fs w) := step_lone_go (by rw [stepG_run hm]; simp [stepG.exec, ht])
theorem st_draw {id : Nat} {ops : Array Oper} (hm : f.mode = .run) (ht : f.todo = .code (.region id ops true) :: k) :
    step P (lone f fs w) = .next (lone { f with todo := .inRegion ops (Region.schedule (P.follows .mixedOrders) ops (w.tape w.drawn (.order f.fn id))) :: k } fs { w with drawn := w.drawn + 1 }) :=
  step_lone_go (by rw [stepG_run hm]; simp [stepG.exec, ht, choose, Sem.run, Question.forced, Question.cut])
end

theorem code_sim (hK : KOK C.K) : ∀ (c : Code) (G : Gh) (H : Hp) (w : World) (base : Tr AV) (k : List XItem) (k' : List Item) (fr : FR) (cs : List XFrame) (f : Frame) (fs : List Frame) (lo : Nat), HR C B G H w → n0 ≤ lo → lo ≤ H.nx → FrB C G fr f → BRel G fr.m fr.d base f.tmps → f.mode = .run → StackR C G n0 cs0 lo cs fs → Bot f0 fr cs →
    ItsR C fr.fn G k k' → C.okC fr.fn c → f.todo = .code c :: k' → Reach C B f0 cs0 n0 G w (lone f fs w) ((codeK C.K fr.m fr.d c).un H base k fr cs) := by
  intro c
  induction c with
  | skip =>
    intro G H w base k k' fr cs f fs lo hr hn hlo hB hbr hm hs hb hk hok ht
    exact .of ⟨G, _, .one (st_skip hm ht), Gh.ext_refl _ _, WK.refl _ _, _, fs, w, lo, rfl, hr, hn, hlo, ⟨hB.todo, .plain hbr hk⟩, hm, hs, hb⟩
  | label l =>
    intro G H w base k k' fr cs f fs lo hr hn hlo hB hbr hm hs hb hk hok ht
    exact .of ⟨G, _, .one (st_label hm ht), Gh.ext_refl _ _, WK.refl _ _, _, fs, w, lo, rfl, hr, hn, hlo, ⟨hB.todo, .plain hbr hk⟩, hm, hs, hb⟩
  | region id ops draw =>
    intro G H w base k k' fr cs f fs lo hr hn hlo hB hbr hm hs hb hk hok ht
    have hok : (ops.toList.all (dstOK (C.nt fr.fn)) && imp draw (drawOK ops)) = true := hok
    rw [Bool.and_eq_true, imp_iff] at hok
    cases draw with
    | false =>
      have := runReg_sim (f0 := f0) (cs0 := cs0) (n0 := n0) hK (k := k) (k' := k') (fr := fr) (cs := cs) ops.toList G H w ⟨[], base⟩ { f with todo := .inRegion ops (List.range ops.size) :: k' } fs (List.range ops.size) lo hr hn hlo hB.todo rfl ⟨hok.1, 0, rfl, rfl⟩ hbr.tr hk hm hs hb
      exact this.pre (.one (st_region hm ht)) (Gh.ext_refl _ _) (WK.refl _ _)
    | true =>
      have hstep := st_draw (P := C.K.P) (fs := fs) (w := w) hm ht
      have hr' : HR C B G H { w with drawn := w.drawn + 1 } := hr.world rfl
      have hsch : ∀ t, Region.schedule (C.K.P.follows .mixedOrders) ops t = Region.linearise .any ops t := fun t => by simp [Region.schedule, hK.mixed]
      rw [hsch] at hstep
      have := drawStep_sim (f0 := f0) (cs0 := cs0) (n0 := n0) hK (k := k) (k' := k') (fr := fr) (cs := cs) (done := 0) (rest := numbered ops.toList 0) (chk := []) (loc := []) (base := base) (fs := fs) (f := { f with todo := .inRegion ops (Region.linearise .any ops (w.tape w.drawn (.order f.fn id))) :: k' })
        hr' hn hlo hB.todo rfl (by simp; exact (List.filter_eq_self.2 (fun _ _ => rfl)).symm) (DrawR.start hok.1 (hok.2 rfl) hbr _) hk hm hs hb
      exact this.pre (.one hstep) (Gh.ext_refl _ _) ⟨rfl, rfl, rfl, Nat.le_refl _, fun _ _ => rfl⟩
  | seq a b iha ihb =>
    intro G H w base k k' fr cs f fs lo hr hn hlo hB hbr hm hs hb hk hok ht
    obtain ⟨h1, h2⟩ := okC_seq.1 hok
    have := iha G H w base (.code b :: k) (.code b :: k') fr cs { f with todo := .code a :: .code b :: k' } fs lo hr hn hlo hB.todo hbr hm hs hb (.cons (.code b h2) hk) h1 rfl
    exact this.pre (.one (st_seq hm ht)) (Gh.ext_refl _ _) (WK.refl _ _)
  | cond v a b iha ihb =>
    intro G H w base k k' fr cs f fs lo hr hn hlo hB hbr hm hs hb hk hok ht
    obtain ⟨h1, h2⟩ := okC_cond.1 hok
    have hv : OpR G fr.m fr.d ⟨[], base⟩ f.eval v := by rw [eval_eq]; exact rd_tr hr hbr.tr v
    have e0 : (codeK C.K fr.m fr.d (.cond v a b)).un H base k fr cs = (match (rd fr.m fr.d v).un ⟨[], base⟩ with | .bool t => bif t then (codeK C.K fr.m fr.d a).un H base k fr cs else (codeK C.K fr.m fr.d b).un H base k fr cs | _ => .er 175) := rfl
    rw [e0]
    unfold OpR at hv
    split
    · next t hq =>
      rw [hq] at hv
      generalize hev : f.eval v = ev at hv
      cases hv
      cases t with
      | true =>
        have := iha G H w base k k' fr cs { f with todo := .code a :: k' } fs lo hr hn hlo hB.todo hbr hm hs hb hk h1 rfl
        exact this.pre (.one (st_cond hm ht hev)) (Gh.ext_refl _ _) (WK.refl _ _)
      | false =>
        have := ihb G H w base k k' fr cs { f with todo := .code b :: k' } fs lo hr hn hlo hB.todo hbr hm hs hb hk h2 rfl
        exact this.pre (.one (st_cond hm ht hev)) (Gh.ext_refl _ _) (WK.refl _ _)
    · trivial
  | block id c ih =>
    intro G H w base k k' fr cs f fs lo hr hn hlo hB hbr hm hs hb hk hok ht
    have := ih G H w base (.inBlock id :: k) (.inBlock id :: k') fr cs { f with todo := .code c :: .inBlock id :: k' } fs lo hr hn hlo hB.todo hbr hm hs hb (.cons (.inBlock id) hk) hok rfl
    exact this.pre (.one (st_block hm ht)) (Gh.ext_refl _ _) (WK.refl _ _)
  | loop c ih =>
    intro G H w base k k' fr cs f fs lo hr hn hlo hB hbr hm hs hb hk hok ht
    have := ih G H w base (.inLoop c :: k) (.inLoop c :: k') fr cs { f with todo := .code c :: .inLoop c :: k' } fs lo hr hn hlo hB.todo hbr hm hs hb (.cons (.inLoop c hok) hk) hok rfl
    exact this.pre (.one (st_loop hm ht)) (Gh.ext_refl _ _) (WK.refl _ _)
  | rangeFunc fo params assign body iha ihb =>
    intro G H w base k k' fr cs f fs lo hr hn hlo hB hbr hm hs hb hk hok ht
    have hok : ((params.toList.all (fun t => Nat.blt t (C.nt fr.fn))) && okCode (C.nt fr.fn) assign && okCode (C.nt fr.fn) body) = true := hok
    simp only [Bool.and_eq_true] at hok
    exact rangeF_sim hK hr hn hlo hB hbr hm hs hb hk (fun t htp => by
      have := List.all_eq_true.1 hok.1.1 t (by simpa using htp)
      rwa [nblt_eq, decide_eq_true_iff] at this) hok.1.2 hok.2 ht
  | exit id =>
    intro G H w base k k' fr cs f fs lo hr hn hlo hB hbr hm hs hb hk hok ht
    obtain ⟨h1, h2⟩ := exit_rel (id := id) hk
    have e0 : (codeK C.K fr.m fr.d (.exit id)).un H base k fr cs = (match xexitTo id k with | some k' => .go H base k' fr cs | none => leave H base fr cs (some (.exit id))) := rfl
    rw [e0]
    cases hq : xexitTo id k with
    | some r =>
      obtain ⟨r', g1, g2⟩ := h1 r hq
      exact .of ⟨G, _, .one (st_exit hm ht g1), Gh.ext_refl _ _, WK.refl _ _, _, fs, w, lo, rfl, hr, hn, hlo, ⟨hB.todo, .plain hbr g2⟩, hm, hs, hb⟩
    | none =>
      have := h2 hq
      exact leave_sim (jump := some (.exit id)) hr hn hlo hB hbr hm hs hb (fun nt c hc => by cases hc; rfl) (by unfold stepG.exec leaveG; rw [ht]; simp only [this, Option.elim_none]; rfl)
  | scope c ih =>
    intro G H w base k k' fr cs f fs lo hr hn hlo hB hbr hm hs hb hk hok ht
    have := ih G H w base (.inScope c :: k) (.inScope c :: k') fr cs { f with todo := .code c :: .inScope c :: k' } fs lo hr hn hlo hB.todo hbr hm hs hb (.cons (.inScope c hok) hk) hok rfl
    exact this.pre (.one (st_scope hm ht)) (Gh.ext_refl _ _) (WK.refl _ _)
  | goto l =>
    intro G H w base k k' fr cs f fs lo hr hn hlo hB hbr hm hs hb hk hok ht
    obtain ⟨h1, h2⟩ := goto_rel (l := l) hk
    have e0 : (codeK C.K fr.m fr.d (.goto l)).un H base k fr cs = (match xgotoIn l k with | some k' => .go H base k' fr cs | none => leave H base fr cs (some (.goto l))) := rfl
    rw [e0]
    cases hq : xgotoIn l k with
    | some r =>
      obtain ⟨r', g1, g2⟩ := h1 r hq
      exact .of ⟨G, _, .one (st_goto hm ht g1), Gh.ext_refl _ _, WK.refl _ _, _, fs, w, lo, rfl, hr, hn, hlo, ⟨hB.todo, .plain hbr g2⟩, hm, hs, hb⟩
    | none =>
      have := h2 hq
      exact leave_sim (jump := some (.goto l)) hr hn hlo hB hbr hm hs hb (fun nt c hc => by cases hc; rfl) (by unfold stepG.exec leaveG; rw [ht]; simp only [this, Option.elim_none]; rfl)
  | ret =>
    intro G H w base k k' fr cs f fs lo hr hn hlo hB hbr hm hs hb hk hok ht
    exact leave_sim (jump := some .ret) hr hn hlo hB hbr hm hs hb (fun nt c hc => by cases hc; rfl) (by unfold stepG.exec leaveG; rw [ht]; rfl)
  | refuse s => intros; trivial

theorem step_sim (hK : KOK C.K) (hr : HR C B G H w) {lo : Nat} (hn : n0 ≤ lo) (hlo : lo ≤ H.nx) {base : Tr AV} {todo : List XItem} {fr : FR} {cs : List XFrame} {f : Frame} {fs : List Frame} (h : FrR C G H lo H.nx base todo fr true f) (hm : f.mode = .run) (hs : StackR C G n0 cs0 lo cs fs) (hb : Bot f0 fr cs) :
    Reach C B f0 cs0 n0 G w (lone f fs w) (stepX C.K H base todo fr cs) := by
  obtain ⟨hB, hT⟩ := h
  generalize hft : f.todo = ft at hT
  cases hT with
  | plain hbr hk =>
    cases hk with
    | nil => exact leave_sim (jump := none) hr hn hlo hB hbr hm hs hb (fun nt c hc => by cases hc) (by unfold stepG.exec leaveG; rw [hft]; rfl)
    | @cons _ _ k k' hi ht =>
      cases hi with
      | code c hc => exact code_sim hK c G H w base k k' fr cs f fs lo hr hn hlo hB hbr hm hs hb ht hc hft
      | inBlock id => exact .of ⟨G, _, .one (st_inBlock hm hft), Gh.ext_refl _ _, WK.refl _ _, _, fs, w, lo, rfl, hr, hn, hlo, ⟨hB.todo, .plain hbr ht⟩, hm, hs, hb⟩
      | inScope c hc => exact .of ⟨G, _, .one (st_inScope hm hft), Gh.ext_refl _ _, WK.refl _ _, _, fs, w, lo, rfl, hr, hn, hlo, ⟨hB.todo, .plain hbr ht⟩, hm, hs, hb⟩
      | inLoop c hc =>
        have := code_sim (f0 := f0) (cs0 := cs0) (n0 := n0) hK c G H w base (.inLoop c :: k) (.inLoop c :: k') fr cs { f with todo := .code c :: .inLoop c :: k' } fs lo hr hn hlo hB.todo hbr hm hs hb (.cons (.inLoop c hc) ht) hc rfl
        exact this.pre (.one (st_inLoop hm hft)) (Gh.ext_refl _ _) (WK.refl _ _)
      | inRF hx => trivial
      | @endRF l x hx =>
        have e0 : stepX C.K H base (.endRF l :: k) fr cs = (match getLoop H l with
          | .ok r => match r.state with
            | .busy => .er 179
            | _ => bif Nat.beq r.fn fr.fn then H.setK l (r.with .exhausted r.pending) fun H => (match r.pending with | some c => .go H base (.code c :: k) fr cs | none => .go H base k fr cs) else .er 179
          | .er s => .er s) := rfl
        rw [e0]
        split
        · next xl hl =>
          obtain ⟨r, hh, hL⟩ := loop_rel hr hx hl
          obtain ⟨l1, l2, l3, l4, l5, l6, l7, l8, l9, l10, l11, l12, l13, l14⟩ := hL
          have key : r.state ≠ .busy → Reach C B f0 cs0 n0 G w (lone f fs w) (bif Nat.beq xl.fn fr.fn then H.setK l (xl.with .exhausted xl.pending) fun H => (match xl.pending with | some c => .go H base (.code c :: k) fr cs | none => .go H base k fr cs) else .er 179) := by
            intro hnb
            cases hfn : Nat.beq xl.fn fr.fn with
            | false => trivial
            | true =>
              rw [nbeq_eq, decide_eq_true_iff] at hfn
              rw [cond_true, Hp.setK_eq]
              obtain ⟨w', g1, g2, g3, g4⟩ := obj_write (P := C.K.P) hr (getLoop_inv hl) hx rfl hh (by simp) (ob' := .loop { r with state := .exhausted }) (o' := xl.with .exhausted xl.pending) (fun w' hw' => by
                rw [XLoop.with_eq]
                exact ⟨_, hw', rfl, l2, l3, l4, l5, l6, l7, l8, l9, l10, l11, l12, l13, l14⟩)
              have hrun : (Instr.endLoop x.b).run C.K.P w = .ok r.pending w' := by
                simp only [Instr.endLoop, Sem.run_bind, run_getLoop hh, Result.andThen]
                have : (r.state == .busy) = false := by
                  cases hq : r.state <;> first | rfl | exact absurd hq hnb
                simp [this, g1]
              have hstep : step C.K.P (lone f fs w) = .next (lone { f with todo := (r.pending.map Item.code).toList ++ k' } fs w') := step_lone_go (by
                rw [stepG_run hm]
                unfold stepG.exec
                rw [hft]
                simp only [Sem.runT_eq, hrun, GStep.bare_after]
                rfl)
              cases hp : xl.pending with
              | none =>
                rw [hp] at g2
                rw [l2] at hp
                rw [hp] at hstep
                exact .of ⟨G, _, .one hstep, Gh.ext_refl _ _, g3, _, fs, w', lo, rfl, g2, hn, hlo, ⟨hB.todo, .plain hbr ht⟩, hm, hs, hb⟩
              | some c =>
                have hcok := l14 c hp
                rw [hfn] at hcok
                rw [hp] at g2
                rw [l2] at hp
                rw [hp] at hstep
                exact .of ⟨G, _, .one hstep, Gh.ext_refl _ _, g3, _, fs, w', lo, rfl, g2, hn, hlo, ⟨hB.todo, .plain hbr (.cons (.code c hcok) ht)⟩, hm, hs, hb⟩
          split
          · trivial
          · next hnb => exact key (by rw [← l1]; exact hnb)
        · trivial
      | beginRound =>
        have e0 : stepX C.K H base (.beginRound :: k) fr cs = (match fr.roundOf with
          | none => .er 180
          | some l => match getLoop H l with
            | .ok r => match r.state with
              | .ready => H.setK l (r.with .busy r.pending) fun H => .go H base k fr cs
              | _ => .er 181
            | .er s => .er s) := rfl
        rw [e0]
        cases hro : fr.roundOf with
        | none => trivial
        | some l =>
          have hrd := hB.round
          rw [hro] at hrd
          cases hro' : f.roundOf with
          | none => rw [hro'] at hrd; exact hrd.elim
          | some lb =>
            rw [hro'] at hrd
            obtain ⟨x, hx, hxb⟩ := hrd
            simp only
            split
            · next xl hl =>
              obtain ⟨r, hh, hL⟩ := loop_rel hr hx hl
              obtain ⟨l1, l2, l3, l4, l5, l6, l7, l8, l9, l10, l11, l12, l13, l14⟩ := hL
              split
              · next hst =>
                rw [Hp.setK_eq]
                obtain ⟨w', g1, g2, g3, g4⟩ := obj_write (P := C.K.P) hr (getLoop_inv hl) hx rfl hh (by simp) (ob' := .loop { r with state := .busy }) (o' := xl.with .busy xl.pending) (fun w' hw' => by
                  rw [XLoop.with_eq]
                  exact ⟨_, hw', rfl, l2, l3, l4, l5, l6, l7, l8, l9, l10, l11, l12, l13, l14⟩)
                have hrs : r.state = .ready := by rw [← l1]; exact hst
                have hrun : (Instr.beginRound lb).run C.K.P w = .ok () w' := by
                  rw [← hxb]
                  simp only [Instr.beginRound, Sem.run_bind, run_getLoop hh, Result.andThen, g1, hrs]
                  rfl
                have hstep : step C.K.P (lone f fs w) = .next (lone { f with todo := k' } fs w') := step_lone_go (by
                  rw [stepG_run hm]
                  unfold stepG.exec
                  rw [hft]
                  have hfin : f.finish undef = { f with todo := k' } := by unfold Frame.finish; rw [hft]
                  simp [stepG.apply, hro', hrun, hfin])
                exact .of ⟨G, _, .one hstep, Gh.ext_refl _ _, g3, _, fs, w', lo, rfl, g2, hn, hlo, ⟨hB.todo, .plain hbr ht⟩, hm, hs, hb⟩
              · trivial
            · trivial
  | reg hbr hR hk => exact runReg_sim hK _ G H w ⟨_, base⟩ f fs _ lo hr hn hlo hB hft hR hbr hk hm hs hb
  | draw hre hD hk => exact drawStep_sim hK hr hn hlo hB hft hre hD hk hm hs hb
  | drawW => trivial
end
end Go.X

/- The interpreter is right, part 29: a frame that returns. -/
namespace Go.X
open Go
section
variable {C : Cx} {B : Nat} {G : Gh} {H : Hp} {w : World} {f0 : FuncId} {cs0 : List Frame} {n0 : Nat}

def rdRes (tmps : Array Value) : ResultVar → Sem Value
  | .tmp t => pure (tmps.getD t undef)
  | .cell x t => do loadVar t (← asAddr (tmps.getD x undef))
theorem results_eq (fn : Func) (tmps : Array Value) : results fn tmps = (do let vs ← fn.results.mapM (rdRes tmps); pure (if h : vs.size = 1 then vs[0] else .tuple vs)) := by
  unfold results
  congr 1
theorem resultsX_sound (hr : HR C B G H w) {m d : Nat} {base : Tr AV} {tmps : Array Value} (hb : BRel G m d base tmps) : ∀ (rs : List ResultVar) (l : List AV), resultsX C.K H m d base rs = .ok l →
    ∃ us : List Value, (rs.mapM (rdRes tmps)).run C.K.P w = .ok us w ∧ VRels G l us
  | [], l, h => by cases h; exact ⟨[], rfl, .nil G⟩
  | .tmp t :: r, l, h => by
    obtain ⟨l', h1, h2⟩ := E.b_inv (show ((resultsX C.K H m d base r).b fun l => .ok ((rd m d (.tmp t)).un ⟨[], base⟩ :: l)) = .ok l from h)
    cases h2
    obtain ⟨us, g1, g2⟩ := resultsX_sound hr hb r l' h1
    have hv : VRel G ((rd m d (.tmp t)).un ⟨[], base⟩) (tmps.getD t undef) := rd_tr hr hb.tr (.tmp t)
    exact ⟨tmps.getD t undef :: us, by simp [List.mapM_cons, rdRes, g1], .cons hv g2⟩
  | .cell a t :: r, l, h => by
    obtain ⟨v, h1, h2⟩ := E.b_inv (show ((load C.K.P t H ((rd m d (.tmp a)).un ⟨[], base⟩)).b fun v => (resultsX C.K H m d base r).b fun l => .ok (v :: l)) = .ok l from h)
    obtain ⟨l', h3, h4⟩ := E.b_inv h2
    cases h4
    obtain ⟨us, g1, g2⟩ := resultsX_sound hr hb r l' h3
    have hv : VRel G ((rd m d (.tmp a)).un ⟨[], base⟩) (tmps.getD a undef) := rd_tr hr hb.tr (.tmp a)
    obtain ⟨u, g3, g4⟩ := load_sound hr h1 hv
    have hptr : ∃ ad, tmps.getD a undef = .pointer (some ad) := by
      cases hq : (rd m d (.tmp a)).un ⟨[], base⟩ with
      | ptr id off => rw [hq] at hv; generalize tmps.getD a undef = x at hv; cases hv; exact ⟨_, rfl⟩
      | _ => rw [hq] at h1; exact nomatch h1
    obtain ⟨ad, had⟩ := hptr
    have g5 : (rdRes tmps (.cell a t)).run C.K.P w = .ok u w := by
      rw [had] at g3
      simp only [rdRes, had]
      simpa [Instr.loadAt, Instr.sureAddr, asAddr] using g3
    exact ⟨u :: us, by simp [List.mapM_cons, g5, g1], .cons g4 g2⟩
theorem results_sound (hr : HR C B G H w) {m d : Nat} {base : Tr AV} {f : Func} {tmps : Array Value} (hb : BRel G m d base tmps) {l : List AV} (h : resultsX C.K H m d base f.results.toList = .ok l) :
    ∃ u, (results f tmps).run C.K.P w = .ok u w ∧ VRel G (oneOf l) u := by
  obtain ⟨us, g1, g2⟩ := resultsX_sound hr hb _ l h
  have hrun : (f.results.mapM (rdRes tmps)).run C.K.P w = .ok us.toArray w := by
    rw [Array.mapM_eq_mapM_toList]
    simp only [Sem.run_map, g1, Result.andThen]
  refine ⟨if h : us.toArray.size = 1 then us.toArray[0] else .tuple us.toArray, by rw [results_eq, Sem.run_bind, hrun]; rfl, ?_⟩
  match l, us, g2 with
  | [], us, g2 => have := g2.nil_inv; subst this; exact .ofTup (.nil G)
  | [x], us, g2 =>
    obtain ⟨u, us', rfl, h1, h2⟩ := g2.cons_inv
    have := h2.nil_inv; subst this
    exact h1
  | x :: y :: l, us, g2 =>
    have hl := g2.1
    rw [dif_neg (by simp at hl ⊢; omega)]
    exact .ofTup (by simpa using g2)

theorem stepG_unw {P : Program} {f : Frame} {fs : List Frame} (hm : f.mode = .returning) : stepG P true { frame := f, callers := fs, status := .running, dying := none } w = Go.unwind P true f fs none w := by
  simp [stepG, hm]

theorem unwind_sim (hK : KOK C.K) (hr : HR C B G H w) {lo : Nat} (hn : n0 ≤ lo) (hlo : lo ≤ H.nx) {base : Tr AV} {fr : FR} {cs : List XFrame} {f : Frame} {fs : List Frame} (hB : FrB C G fr f) (hbr : BRel G fr.m fr.d base f.tmps) (hm : f.mode = .returning) (hs : StackR C G n0 cs0 lo cs fs) (hb : Bot f0 fr cs) :
    Reach C B f0 cs0 n0 G w (lone f fs w) (unwind C.K H base fr cs) := by
  obtain ⟨xfn, xm, xd, xds, xk, xr⟩ := fr
  have hdf := hB.defers
  cases xds with
  | cons dd ds =>
    obtain ⟨tgt, args⟩ := dd
    generalize hfd : f.defers = fd at hdf
    have hdf : All2 (DefRel G) (⟨tgt, args⟩ :: ds) fd := hdf
    cases hdf with | @cons _ d' _ ds' hd ht =>
    obtain ⟨htgt, hargs⟩ := hd
    have hB' : ∀ {ds1 : List XDef} {ds2 : List Deferred}, DefsRel G ds1 ds2 → FrB C G ⟨xfn, xm, xd, ds1, xk, xr⟩ { f with defers := ds2 } := fun h => ⟨hB.fn, hB.m, hB.d, hB.sz, h, hB.kind, hB.knd, hB.round⟩
    have hb' : ∀ ds1, Bot f0 ⟨xfn, xm, xd, ds1, xk, xr⟩ cs := fun ds1 => by cases cs <;> exact hb
    have norm : (∀ b, tgt ≠ .collected b) → Reach C B f0 cs0 n0 G w (lone f fs w) (match invokeT C.K.P C.K H tgt args with
      | .ok (.enter f args H) => enterF C.K f args .deferred H (⟨base, [], ⟨xfn, xm, xd, ds, xk, xr⟩, .returning⟩ :: cs)
      | _ => .er 169) := by
      intro hnc
      split
      · next g as H' hinv =>
        obtain ⟨rfl, us, hrun, ha⟩ := invoke_sound hK hr htgt hargs hinv
        have hncd : ∀ b, d'.target ≠ .collected b := by
          intro b e
          rw [e] at htgt
          cases htgt with | collected h => exact hnc _ rfl
        have hnil : d'.target ≠ .nil := by
          intro e
          rw [e] at htgt
          cases htgt
        have hstep : step C.K.P (lone f fs w) = .next (lone (Frame.enter C.K.P g us.toArray .deferred) ({ f with defers := ds' } :: fs) w) := step_lone_go (by
          rw [stepG_unw hm]
          have e1 : Go.unwind C.K.P true f fs none w = Go.callDeferred C.K.P { f with defers := ds' } fs none d' w := by
            unfold Go.unwind
            rw [hfd]
            obtain ⟨t', a'⟩ := d'
            simp only at hncd
            cases t' with
            | collected b => exact absurd rfl (hncd b)
            | _ => rfl
          rw [e1]
          have e2 : (d'.target matches .nil) = false := by
            cases hq : d'.target with
            | nil => exact absurd hq hnil
            | _ => rfl
          have e3 : (invoke d'.target d'.args).run C.K.P w = .ok (.enter g us.toArray) w := by
            have : d'.args.toList.toArray = d'.args := by simp
            rw [this] at hrun
            exact hrun
          unfold Go.callDeferred
          simp only [e2, Bool.false_and, Bool.false_eq_true, if_false, Sem.runT_eq, e3, GStep.bare_after]
          rfl)
        exact .of ⟨G, _, .one hstep, Gh.ext_refl _ _, WK.refl _ _, enterF_sim hK hr (Nat.le_trans hn hlo) ha (.inr rfl) (.ret (x := ⟨base, [], ⟨xfn, xm, xd, ds, xk, xr⟩, .returning⟩) hn hlo rfl hm (hB' ht) hbr hs) (fun _ _ => hb' ds)⟩
      · trivial
    cases tgt with
    | collected b =>
      have e0 : unwind C.K H base ⟨xfn, xm, xd, ⟨.collected b, args⟩ :: ds, xk, xr⟩ cs = (match H.get b with
        | some (.deferred (some l)) => forceL (l ++ ds) fun ds => H.setK b (.deferred none) fun H => .unw H base ⟨xfn, xm, xd, ds, xk, xr⟩ cs
        | _ => .er 170) := rfl
      rw [e0]
      split
      · next l hl =>
        rw [forceL_eq, Hp.setK_eq]
        generalize htg : d'.target = tt at htgt
        cases htgt with | @collected _ x hx =>
        obtain ⟨dd', hh, l', rfl, hll⟩ := hr.ob b _ x (hr.id_lt hx) hl hx
        obtain ⟨w', g1, g2, g3, g4⟩ := obj_write (P := C.K.P) hr hl hx rfl hh (by simp) (ob' := .deferred none) (o' := .deferred none) (fun w' hw' => ⟨none, hw', rfl⟩)
        have hrun : (Instr.takeDeferred x.b).run C.K.P w = .ok l' w' := by
          simp only [Instr.takeDeferred, Sem.run_bind, run_getObj hh (by simp), Result.andThen, g1]
          rfl
        have hstep : step C.K.P (lone f fs w) = .next (lone { f with defers := l' ++ ds' } fs w') := step_lone_go (by
          rw [stepG_unw hm]
          unfold Go.unwind
          rw [hfd]
          obtain ⟨t', a'⟩ := d'
          simp only at htg
          subst htg
          simp only [Sem.runT_eq, hrun, GStep.bare_after]
          rfl)
        exact .of ⟨G, _, .one hstep, Gh.ext_refl _ _, g3, _, fs, w', lo, rfl, g2, hn, hlo, hB' (hll.append ht), hbr, hm, hs, hb' _⟩
      · trivial
    | _ => exact norm (fun b e => by cases e)
  | nil =>
    have hfd : f.defers = [] := by
      generalize f.defers = fd at hdf
      cases hdf; rfl
    have e0 : unwind C.K H base ⟨xfn, xm, xd, [], xk, xr⟩ cs = (match (C.K.fn xfn).un with
      | none => .er 173
      | some f => match resultsX C.K H xm xd base f.results.toList with
        | .ok l => doReturn H xk cs (oneOf l)
        | .er s => .er s) := rfl
    rw [e0]
    split
    · trivial
    · next fn hfn =>
      have hf := hK.fn xfn fn hfn
      split
      · next l hl =>
        obtain ⟨u, g1, g2⟩ := results_sound hr hbr hl
        cases cs with
        | nil =>
          cases hs
          have hkn : xk = .normal := hb.2.1
          subst hkn
          refine .of ⟨G, _, .refl _ _, Gh.ext_refl _ _, WK.refl _ _, f, w, u, rfl, hr, Nat.le_trans hn hlo, g2, hB.fn.trans hb.1, hm, hfd, hB.kind, fn, ?_, g1⟩
          rw [hB.fn]; exact hf
        | cons c cs =>
          refine ret_sim (fr := ⟨xfn, xm, xd, [], xk, xr⟩) hr (Nat.le_trans hn hlo) hlo hB hs hb g2 (by simp) (fun f' fs' w1 hd => ?_)
          refine step_lone_go ?_
          rw [stepG_unw hm]
          unfold Go.unwind
          rw [hfd, hm]
          have hf' : C.K.P.funcs[f.fn]? = some fn := by rw [hB.fn]; exact hf
          simp only [hf', Sem.runT_eq, g1, GStep.bare_after]
          have : f = { f with defers := f.defers } := rfl
          rw [hd]
          rfl
      · trivial
end
end Go.X

/- The interpreter is right, part 30: new names; outcomes that agree. -/
namespace Go.X
open Go
section
variable {C : Cx} {B : Nat} {G G' : Gh} {H : Hp} {w : World} {n : Nat} {R : Tr Nat}

/-! ### Values under new names -/
/-- New names say what the old ones said. -/
def NameR (G G' : Gh) (n : Nat) (R : Tr Nat) : Prop := (∀ id x, id < n → G id = some x → G' id = some x) ∧ ∀ id i x, G id = some x → Tr.get (path dH id) R = some i → G' i = some x
theorem ren_inv {Z : Type} {id : Nat} {k : Nat → E Z} {r : Z} (hR : NameR G G' n R) (h : ren n R id k = .ok r) : ∃ i, k i = .ok r ∧ ∀ x, G id = some x → G' i = some x := by
  unfold ren at h
  cases hb : Nat.blt id n with
  | true =>
    rw [hb] at h
    rw [nblt_eq, decide_eq_true_iff] at hb
    exact ⟨id, h, fun x hx => hR.1 id x hb hx⟩
  | false =>
    rw [hb, cond_false] at h
    split at h
    · next i hi => exact ⟨i, h, fun x hx => hR.2 id i x hx hi⟩
    · exact nomatch h
mutual
theorem renA_inv {Z : Type} (hR : NameR G G' n R) : ∀ (a : AV) {k : AV → E Z} {r : Z}, renA n R a k = .ok r → ∃ a', k a' = .ok r ∧ (∀ u, VRel G a u → VRel G' a' u) ∧ a'.one = a.one
  | .ptr id o, k, r, h => by
    rw [renA] at h
    obtain ⟨i, h1, h2⟩ := ren_inv hR h
    exact ⟨_, h1, fun u hu => by cases hu with | ptr hx => exact .ptr (h2 _ hx), rfl⟩
  | .sl id a b c, k, r, h => by
    rw [renA] at h
    obtain ⟨i, h1, h2⟩ := ren_inv hR h
    exact ⟨_, h1, fun u hu => by cases hu with | sl hx q1 q2 q3 q4 q5 => exact .sl (h2 _ hx) q1 q2 q3 q4 q5, rfl⟩
  | .mref id, k, r, h => by
    rw [renA] at h
    obtain ⟨i, h1, h2⟩ := ren_inv hR h
    exact ⟨_, h1, fun u hu => by cases hu with | mref hx => exact .mref (h2 _ hx), rfl⟩
  | .agg cs, k, r, h => by
    rw [renA] at h
    obtain ⟨l, h1, h2, _⟩ := renL_inv hR cs h
    exact ⟨_, h1, fun u hu => by obtain ⟨c, rfl, hc⟩ := hu.agg_inv; exact .ofAgg (h2 _ hc), rfl⟩
  | .tup cs, k, r, h => by
    rw [renA] at h
    obtain ⟨l, h1, h2, _⟩ := renL_inv hR cs h
    exact ⟨_, h1, fun u hu => by obtain ⟨c, rfl, hc⟩ := hu.tup_inv; exact .ofTup (h2 _ hc), rfl⟩
  | .ifc t v, k, r, h => by
    rw [renA] at h
    obtain ⟨l, h1, h2, _⟩ := renA_inv hR v h
    exact ⟨_, h1, fun u hu => by cases hu with | ifc hv => exact .ifc (h2 _ hv), rfl⟩
  | .fn a b c, k, r, h => by rw [renA] at h; exact nomatch h
  | .yld l, k, r, h => by rw [renA] at h; exact nomatch h
  | .bool b, k, r, h => by rw [renA] at h; exact ⟨_, h, fun u hu => by cases hu; exact .bool b, rfl⟩; all_goals simp
  | .int a b, k, r, h => by rw [renA] at h; exact ⟨_, h, fun u hu => by cases hu; exact .int _ _, rfl⟩; all_goals simp
  | .flt a b, k, r, h => by rw [renA] at h; exact ⟨_, h, fun u hu => by cases hu; exact .flt _ _, rfl⟩; all_goals simp
  | .cpx a b c, k, r, h => by rw [renA] at h; exact ⟨_, h, fun u hu => by cases hu; exact .cpx _ _ _, rfl⟩; all_goals simp
  | .str a, k, r, h => by rw [renA] at h; exact ⟨_, h, fun u hu => by cases hu with | str hs => exact .str hs, rfl⟩; all_goals simp
  | .nilp, k, r, h => by rw [renA] at h; exact ⟨_, h, fun u hu => by cases hu; exact .nilp, rfl⟩; all_goals simp
  | .nils, k, r, h => by rw [renA] at h; exact ⟨_, h, fun u hu => by cases hu; exact .nils, rfl⟩; all_goals simp
  | .nilm, k, r, h => by rw [renA] at h; exact ⟨_, h, fun u hu => by cases hu; exact .nilm, rfl⟩; all_goals simp
  | .nilf, k, r, h => by rw [renA] at h; exact ⟨_, h, fun u hu => by cases hu; exact .nilf, rfl⟩; all_goals simp
  | .nili, k, r, h => by rw [renA] at h; exact ⟨_, h, fun u hu => by cases hu; exact .nili, rfl⟩; all_goals simp
  | .bad, k, r, h => by rw [renA] at h; exact ⟨_, h, fun u hu => .bad u, rfl⟩; all_goals simp
theorem renL_inv {Z : Type} (hR : NameR G G' n R) : ∀ (l : List AV) {k : List AV → E Z} {r : Z}, renL n R l k = .ok r → ∃ l', k l' = .ok r ∧ (∀ us, VRels G l us → VRels G' l' us) ∧ l'.length = l.length ∧ ∀ i (h : i < l'.length) (h' : i < l.length), l'[i].one = l[i].one
  | [], k, r, h => by rw [renL] at h; exact ⟨[], h, fun us hu => by have := hu.nil_inv; subst this; exact .nil _, rfl, fun i hi => absurd hi (by simp)⟩
  | a :: l, k, r, h => by
    rw [renL] at h
    obtain ⟨a', h1, h2, h3⟩ := renA_inv hR a h
    obtain ⟨l', h4, h5, h6, h7⟩ := renL_inv hR l h1
    refine ⟨a' :: l', h4, fun us hu => ?_, by simp [h6], fun i hi hi' => ?_⟩
    · obtain ⟨u, us', rfl, q1, q2⟩ := hu.cons_inv
      exact .cons (h2 u q1) (h5 us' q2)
    · cases i with
      | zero => exact h3
      | succ i => exact h7 i (by simpa using hi) (by simpa using hi')
end
theorem renEs_inv {Z : Type} (hR : NameR G G' n R) : ∀ (l : List XEnt) {k : List XEnt → E Z} {r : Z}, renEs n R l k = .ok r → ∃ l', k l' = .ok r ∧ ∀ es, All2 (EntRel G) l es → All2 (EntRel G') l' es
  | [], k, r, h => ⟨[], h, fun es he => by cases he; exact .nil⟩
  | e :: l, k, r, h => by
    rw [renEs] at h
    obtain ⟨a', h1, h2, _⟩ := renA_inv hR e.key h
    obtain ⟨b', h3, h4, _⟩ := renA_inv hR e.val h1
    obtain ⟨l', h5, h6⟩ := renEs_inv hR l h3
    refine ⟨_, h5, fun es he => ?_⟩
    cases he with
    | cons x t => exact .cons ⟨h2 _ x.1, h4 _ x.2.1, x.2.2⟩ (h6 _ t)
theorem renO_inv (hR : NameR G G' n R) {o o' : XObj} (h : renO n R o = .ok o') : o'.fixed = o.fixed ∧ ∀ x, ORel C G w x o → ORel C G' w x o' := by
  cases o with
  | arr e ex k d m cs ro =>
    obtain ⟨l, h1, h2⟩ := E.b_inv (show ((getCs d cs m 0).b fun l => renL n R l fun l => putCs d l 0 .e fun t => .ok (.arr e ex k d m t ro)) = .ok o' from h)
    obtain ⟨l', h3, h4, h5, h6⟩ := renL_inv hR l h2
    rw [putCs_eq] at h3
    cases h3
    refine ⟨rfl, fun x hx => ?_⟩
    obtain ⟨q1, q2, q3, c, el, fr, q4, q5, q6, q7, q8, q9⟩ := hx
    obtain ⟨g1, g2⟩ := getCs_inv h1
    refine ⟨q1, q2, q3, c, el, fr, q4, q5, q6, q7, q8, fun j hj => ?_⟩
    have hjl : j < l'.length := by omega
    have hjl' : j < l.length := by omega
    have hall : VRels G l ((List.range m).map fun j => c.getD (x.base + j) undef) := by
      have := VRels.of_fn (G := G) (as := l) (f := fun j => c.getD (x.base + j) undef) (fun i hi => by
        obtain ⟨a, a1, a2, a3⟩ := q9 i (by omega)
        have := g2 i hi
        rw [Nat.zero_add] at this
        rw [this] at a1; cases a1
        exact a3)
      rwa [g1] at this
    have hnew := (h4 _ hall).2 j hjl
    obtain ⟨a, a1, a2, a3⟩ := q9 j hj
    have hlj := g2 j hjl'
    rw [Nat.zero_add, a1] at hlj
    cases hlj
    refine ⟨l'[j], ?_, by rw [h6 j hjl hjl']; exact a2, ?_⟩
    · show Tr.get (path d j) (putT d l' 0 .e) = _
      rw [get_putT _ _ _ _ (by omega) (by omega), if_pos (by omega)]
      simp [hjl]
    · have e : ((List.range m).map fun j => c.getD (x.base + j) undef).getD j undef = c.getD (x.base + j) undef := by
        simp [List.getD_eq_getElem?_getD, hj]
      rw [e] at hnew
      exact hnew
  | map es ck =>
    obtain ⟨l', h1, h2⟩ := renEs_inv hR es (show renEs n R es (fun es => .ok (.map es ck)) = .ok o' from h)
    cases h1
    refine ⟨rfl, fun x hx => ?_⟩
    obtain ⟨en, q1, q2⟩ := hx
    exact ⟨en, q1, h2 _ q2⟩
  | _ => exact nomatch h

/-! ### Names are given -/
structure Named (H : Hp) (n : Nat) (R : Tr Nat) (c : Nat) (acc : List Nat) : Prop where
  c : c = n + acc.length
  get : ∀ id i, id < 2 ^ dH → Tr.get (path dH id) R = some i → n ≤ i ∧ acc.reverse[i - n]? = some id
  mem : ∀ id ∈ acc, n ≤ id ∧ id < H.nx ∧ (Tr.get (path dH id) R).isSome = true
  nd : acc.Nodup
theorem nameAll_inv (htop : H.nx ≤ 2 ^ dH) {k : Tr Nat → Nat → List Nat → E Out} {r : Out} : ∀ (f : Nat) (l : List Nat) (R : Tr Nat) (c : Nat) (acc : List Nat), Named H n R c acc → nameAll H n f l R c acc k = .ok r → ∃ R' c' acc', Named H n R' c' acc' ∧ k R' c' acc' = .ok r
  | 0, l, R, c, acc, hN, h => nomatch h
  | f + 1, l, R, c, acc, hN, h => by
    cases l with
    | nil => exact ⟨R, c, acc, hN, h⟩
    | cons id l =>
      have h : (bif Nat.blt id n || !Nat.blt id H.nx || (Tr.get (path dH id) R).isSome then nameAll H n f l R c acc k
        else Tr.putK c (path dH id) R fun R => force (Nat.succ c) fun c => nameAll H n f (match H.get id with | some o => refsO o l | none => l) R c (id :: acc) k) = .ok r := h
      cases hb : Nat.blt id n || !Nat.blt id H.nx || (Tr.get (path dH id) R).isSome with
      | true => rw [hb] at h; exact nameAll_inv htop f l R c acc hN h
      | false =>
        rw [hb, cond_false, Tr.putK_eq, force_eq] at h
        simp only [Bool.or_eq_false_iff, Bool.not_eq_false', nblt_eq, decide_eq_true_iff, decide_eq_false_iff_not] at hb
        obtain ⟨⟨h1, h2⟩, h3⟩ := hb
        have hid : id < 2 ^ dH := by omega
        refine nameAll_inv htop f _ _ _ _ ⟨by rw [hN.c]; simp; omega, fun j i hj hg => ?_, fun j hj => ?_, ?_⟩ h
        · rw [get_put_path _ _ hid hj] at hg
          split at hg
          · next e =>
            subst e
            cases hg
            have := hN.c
            refine ⟨by omega, ?_⟩
            rw [List.reverse_cons, List.getElem?_append_right (by simp; omega)]
            have : c - n - acc.reverse.length = 0 := by simp; omega
            rw [this]; rfl
          · obtain ⟨q1, q2⟩ := hN.get j i hj hg
            refine ⟨q1, ?_⟩
            rw [List.reverse_cons, List.getElem?_append_left]
            · exact q2
            · exact (List.getElem?_eq_some_iff.1 q2).1
        · rcases List.mem_cons.1 hj with e | e
          · subst e
            refine ⟨by omega, h2, ?_⟩
            rw [get_put_path _ _ hid hid, if_pos rfl]; rfl
          · obtain ⟨q1, q2, q3⟩ := hN.mem j e
            refine ⟨q1, q2, ?_⟩
            rw [get_put_path _ _ hid (by omega)]
            split
            · rfl
            · exact q3
        · refine List.nodup_cons.2 ⟨fun hm => ?_, hN.nd⟩
          have := (hN.mem id hm).2.2
          rw [h3] at this; cases this

/-! ### Memory is laid anew -/
def oldId (n : Nat) (acc : List Nat) (j : Nat) : Option Nat := if j < n then some j else acc.reverse[j - n]?
/-- What is laid comes of what was. -/
def Laid (H : Hp) (n : Nat) (R : Tr Nat) (acc : List Nat) (t : Tr XObj) : Prop := ∀ j, j < 2 ^ dH → ∀ o', Tr.get (path dH j) t = some o' → ∃ id o, oldId n acc j = some id ∧ H.get id = some o ∧ renO n R o = .ok o'
theorem layO_inv {acc : List Nat} {id to : Nat} {t : Tr XObj} {k : Tr XObj → E Out} {r : Out} (hL : Laid H n R acc t) (hto : to < 2 ^ dH) (hold : oldId n acc to = some id) (h : layO H n R id to t k = .ok r) : ∃ t', Laid H n R acc t' ∧ k t' = .ok r := by
  unfold layO at h
  split at h
  · next o ho =>
    split at h
    · next o' ho' =>
      rw [Tr.putK_eq] at h
      refine ⟨_, fun j hj p hp => ?_, h⟩
      rw [get_put_path _ _ hto hj] at hp
      split at hp
      · next e => subst e; cases hp; exact ⟨id, o, hold, ho, ho'⟩
      · exact hL j hj p hp
    · exact ⟨t, hL, h⟩
  · exact ⟨t, hL, h⟩
theorem layOld_inv {acc : List Nat} {k : Tr XObj → E Out} {r : Out} (hn : n ≤ 2 ^ dH) : ∀ (i : Nat) (t : Tr XObj), i ≤ n → Laid H n R acc t → layOld H n R i t k = .ok r → ∃ t', Laid H n R acc t' ∧ k t' = .ok r
  | 0, t, _, hL, h => ⟨t, hL, h⟩
  | i + 1, t, hi, hL, h => by
    obtain ⟨t', h1, h2⟩ := layO_inv hL (by omega) (by simp [oldId]; omega) (show layO H n R i i t (fun t => layOld H n R i t k) = .ok r from h)
    exact layOld_inv hn i t' (by omega) h1 h2
theorem layNew_inv {acc0 : List Nat} {k : Tr XObj → E Out} {r : Out} (hn : n + acc0.length ≤ 2 ^ dH) : ∀ (l : List Nat) (c : Nat) (t : Tr XObj), (∃ a, acc0 = a ++ l) → c = n + l.length → Laid H n R acc0 t → layNew H n R l c t k = .ok r → ∃ t', Laid H n R acc0 t' ∧ k t' = .ok r
  | [], c, t, _, _, hL, h => ⟨t, hL, h⟩
  | id :: l, c, t, ⟨a, ha⟩, hc, hL, h => by
    have h : (force (c - 1) fun c => layO H n R id c t fun t => layNew H n R l c t k) = .ok r := h
    rw [force_eq] at h
    simp only [List.length_cons] at hc
    have hlen : l.length + 1 ≤ acc0.length := by rw [ha]; simp
    have hold : oldId n acc0 (c - 1) = some id := by
      unfold oldId
      rw [if_neg (by omega), ha, List.reverse_append, List.reverse_cons, List.append_assoc, List.getElem?_append_right (by simp; omega)]
      have : c - 1 - n - l.reverse.length = 0 := by simp; omega
      rw [this]; simp
    obtain ⟨t', h1, h2⟩ := layO_inv hL (by omega) hold h
    exact layNew_inv hn l (c - 1) t' ⟨a ++ [id], by rw [ha]; simp⟩ (by omega) h1 h2

/-- Below a number the same is said. -/
def Gh.agr (n : Nat) (G G' : Gh) : Prop := ∀ id, id < n → G' id = G id
theorem Gh.agr_trans {n : Nat} {a b c : Gh} (h : Gh.agr n a b) (k : Gh.agr n b c) : Gh.agr n a c := fun id hid => (k id hid).trans (h id hid)
theorem Gh.ext.agr {n : Nat} (h : Gh.ext n G G') : Gh.agr n G G' := by
  intro id hid
  cases hg : G id with
  | none => exact h.2 id hid hg
  | some x => exact h.1 id x hg

theorem canon_sound (hr : HR C B G H w) (hn2 : 2 ≤ n) {v : AV} {u : Value} (hv : VRel G v u) {o : Out} (h : canon n ⟨v, H⟩ = .ok o) : ∃ G', HR C B G' o.H w ∧ VRel G' o.v u ∧ Gh.agr n G G' ∧ n ≤ o.H.nx := by
  obtain ⟨h1, h2⟩ := E.whn_inv (show E.whn (Nat.ble n H.nx) 196 (nameAll H n 1000000 (refsA v (oldRefs H n [])) .e n [] fun R c acc => E.whn (Nat.ble c (Nat.pow 2 dH)) 196 (renA n R v fun v => layOld H n R n .e fun t => layNew H n R acc c t fun t => .ok ⟨v, ⟨t, c⟩⟩)) = .ok o from h)
  rw [nble_eq, decide_eq_true_iff] at h1
  have emp : ∀ {α : Type} (p : List Bool), Tr.get p (Tr.e : Tr α) = none := fun p => by cases p <;> rfl
  obtain ⟨R, c, acc, hN, h3⟩ := nameAll_inv hr.top _ _ _ _ _ ⟨by simp, fun id i _ hg => (by rw [emp] at hg; cases hg), fun id hid => (by cases hid), List.nodup_nil⟩ h2
  obtain ⟨hc, h4⟩ := E.whn_inv h3
  rw [nble_eq, decide_eq_true_iff] at hc
  have hc : c ≤ 2 ^ dH := hc
  have hcc := hN.c
  let G' : Gh := fun j => if j < c then (oldId n acc j).bind G else none
  have hR : NameR G G' n R := by
    refine ⟨fun id x hid hx => ?_, fun id i x hx hg => ?_⟩
    · have : id < c := by omega
      simp [G', oldId, this, hid, hx]
    · obtain ⟨q1, q2⟩ := hN.get id i (hr.id_lt' hx) hg
      have hi : i - n < acc.reverse.length := (List.getElem?_eq_some_iff.1 q2).1
      have : i < c := by simp at hi; omega
      simp only [G', if_pos this, oldId, if_neg (show ¬ i < n by omega), q2]
      exact hx
  obtain ⟨v', h5, h6, _⟩ := renA_inv hR v h4
  obtain ⟨t1, h7, h8⟩ := layOld_inv (acc := acc) (by have := hr.top; omega) n .e (Nat.le_refl _) (fun j hj p hp => by rw [emp] at hp; cases hp) h5
  obtain ⟨t2, h9, h10⟩ := layNew_inv (acc0 := acc) (by omega) acc c t1 ⟨[], rfl⟩ hcc h7 h8
  cases h10
  have hold : ∀ j x, G' j = some x → j < c ∧ ∃ id, oldId n acc j = some id ∧ G id = some x := by
    intro j x hj
    by_cases q : j < c
    · simp only [G', if_pos q] at hj
      cases hq : oldId n acc j with
      | none => rw [hq] at hj; cases hj
      | some id => rw [hq] at hj; exact ⟨q, id, rfl, hj⟩
    · simp only [G', if_neg q] at hj; cases hj
  have hinj : ∀ j j' id, oldId n acc j = some id → oldId n acc j' = some id → j = j' := by
    intro j j' id hj hj'
    unfold oldId at hj hj'
    have hge : ∀ j, ¬ j < n → acc.reverse[j - n]? = some id → n ≤ id := fun j _ hq => (hN.mem id (List.mem_reverse.1 (List.mem_of_getElem? hq))).1
    by_cases q : j < n
    · rw [if_pos q] at hj; cases hj
      by_cases q' : j' < n
      · rw [if_pos q'] at hj'; cases hj'; rfl
      · rw [if_neg q'] at hj'; have := hge j' q' hj'; omega
    · rw [if_neg q] at hj
      by_cases q' : j' < n
      · rw [if_pos q'] at hj'; cases hj'; have := hge j q hj; omega
      · rw [if_neg q'] at hj'
        have hnd : acc.reverse.Nodup := (List.reverse_perm acc).nodup_iff.2 hN.nd
        obtain ⟨a1, a2⟩ := List.getElem?_eq_some_iff.1 hj
        obtain ⟨b1, b2⟩ := List.getElem?_eq_some_iff.1 hj'
        have hpw := List.pairwise_iff_getElem.1 hnd
        rcases Nat.lt_trichotomy (j - n) (j' - n) with e | e | e
        · exact absurd (a2.trans b2.symm) (hpw _ _ a1 b1 e)
        · omega
        · exact absurd (b2.trans a2.symm) (hpw _ _ b1 a1 e)
  have hget : ∀ j o', j < c → Hp.get ⟨t2, c⟩ j = some o' → ∃ id p, oldId n acc j = some id ∧ H.get id = some p ∧ renO n R p = .ok o' := fun j o' hj hg => h9 j (by omega) o' hg
  refine ⟨G', ⟨hr.bs, hc, fun id hid => ?_, fun id x hx => ?_, fun id p x hid hg hx => ?_, fun id id' p p' x x' hid hid' hg hg' hx hx' hb hne => ?_, fun id p x hid hg hx hf => ?_, fun id x hx => ?_, fun g hg => ?_⟩, h6 u hv, fun id hid => ?_, by show n ≤ c; omega⟩
  · exact if_neg (show ¬ id < c from Nat.not_lt.2 hid)
  · obtain ⟨_, j, _, q⟩ := hold id x hx; exact hr.lt j x q
  · obtain ⟨_, j, q1, q2⟩ := hold id x hx
    obtain ⟨j', p0, r1, r2, r3⟩ := hget id p hid hg
    rw [q1] at r1; cases r1
    exact (renO_inv (C := C) (w := w) hR r3).2 x (hr.ob j p0 x (hr.id_lt q2) r2 q2)
  · obtain ⟨_, j, q1, q2⟩ := hold id x hx
    obtain ⟨j1, p0, r1, r2, r3⟩ := hget id p hid hg
    rw [q1] at r1; cases r1
    obtain ⟨_, i, s1, s2⟩ := hold id' x' hx'
    obtain ⟨i1, p1, t1', t2', t3'⟩ := hget id' p' hid' hg'
    rw [s1] at t1'; cases t1'
    have hji : j ≠ i := fun e => by subst e; exact hne (hinj _ _ _ q1 s1)
    have := hr.inj j i p0 p1 x x' (hr.id_lt q2) (hr.id_lt s2) r2 t2' q2 s2 hb hji
    exact ⟨by rw [(renO_inv (C := C) (w := w) hR r3).1]; exact this.1, by rw [(renO_inv (C := C) (w := w) hR t3').1]; exact this.2⟩
  · obtain ⟨_, j, q1, q2⟩ := hold id x hx
    obtain ⟨j1, p0, r1, r2, r3⟩ := hget id p hid hg
    rw [q1] at r1; cases r1
    exact hr.own j p0 x (hr.id_lt q2) r2 q2 (by rw [← (renO_inv (C := C) (w := w) hR r3).1]; exact hf)
  · obtain ⟨_, j, _, q⟩ := hold id x hx; exact hr.src j x q
  · obtain ⟨x, q1, q2⟩ := hr.gl g hg
    exact ⟨x, hR.1 g x (by omega) q1, q2⟩
  · have : id < c := by omega
    simp [G', oldId, this, hid]

/-! ### Outcomes that agree -/
theorem sameH_inv {H H' : Hp} : ∀ (n : Nat), sameH H H' n = true → ∀ i, i < n → ∀ o, H.get i = some o → H'.get i = some o
  | 0, _, i, hi, _, _ => absurd hi (by omega)
  | n + 1, h, i, hi, o, ho => by
    simp only [sameH, Bool.and_eq_true] at h
    by_cases e : i = n
    · subst e
      have h1 := h.1
      rw [ho] at h1
      cases hq : H'.get i with
      | none => rw [hq] at h1; cases h1
      | some o' => rw [hq] at h1; rw [XObj.eqb_eq h1]
    · exact sameH_inv n h.2 i (by omega) o ho
theorem agree_inv {l : List (E Out)} {o : Out} (h : agree l = .ok o) : ∀ x ∈ l, ∃ o', x = .ok o' ∧ o'.v = o.v ∧ o'.H.nx = o.H.nx ∧ ∀ i, i < o.H.nx → ∀ p, o.H.get i = some p → o'.H.get i = some p := by
  cases l with
  | nil => exact nomatch h
  | cons y r =>
    cases y with
    | er s => exact nomatch h
    | ok o1 =>
      have h : (bif r.all (fun x => match x with | .ok o' => o1.v.eqb o'.v && Nat.beq o1.H.nx o'.H.nx && sameH o1.H o'.H o1.H.nx | .er _ => false) then .ok o1 else .er 193 : E Out) = .ok o := h
      cases hb : r.all (fun x => match x with | .ok o' => o1.v.eqb o'.v && Nat.beq o1.H.nx o'.H.nx && sameH o1.H o'.H o1.H.nx | .er _ => false) with
      | false => rw [hb] at h; exact nomatch h
      | true =>
        rw [hb] at h
        cases h
        intro x hx
        rcases List.mem_cons.1 hx with e | e
        · exact ⟨o, e, rfl, rfl, fun i _ p hp => hp⟩
        · have := List.all_eq_true.1 hb x e
          cases x with
          | er s => cases this
          | ok o' =>
            simp only [Bool.and_eq_true, nbeq_eq, decide_eq_true_iff] at this
            exact ⟨o', rfl, (AV.eqb_eq _ _ this.1.1).symm, this.1.2.symm, sameH_inv _ this.2⟩
end
end Go.X

/- The interpreter is right, part 31: values as trees. -/
namespace Go.X
open Go
section
variable {C : Cx} {B : Nat} {G : Gh} {H : Hp} {w : World}

mutual
/-- A value is a tree; its blocks. -/
def TRel (Bs : Nat → Prop) (w : World) : TV → Value → Prop
  | .sc a, v => plainAV a = true ∧ VRel (fun _ => none) a v
  | .lst k len cs, v => ∃ (b o cap : Nat) (c : Array Value) (el : TypeId) (fr : Nat × Nat), v = .slice (some ⟨b, o, none⟩) len cap ∧ len ≤ cap ∧ cap ≤ maxLen ∧ Bs b ∧ w.heap[b]? = some (.cells c el fr) ∧ (cap = 0 ∨ o + cap * k ≤ c.size) ∧ cs.length = len * k ∧
      TRels Bs w cs ((List.range (len * k)).map fun j => c.getD (o + j) undef)
  | .agg cs, v => ∃ c : Array Value, v = .agg c ∧ TRels Bs w cs c.toList
  | .tup cs, v => ∃ c : Array Value, v = .tuple c ∧ TRels Bs w cs c.toList
  | .ifc t x, v => ∃ u, v = .iface t u ∧ TRel Bs w x u
def TRels (Bs : Nat → Prop) (w : World) : List TV → List Value → Prop
  | [], vs => vs = []
  | t :: ts, vs => ∃ v us, vs = v :: us ∧ TRel Bs w t v ∧ TRels Bs w ts us
end

theorem plain_rel {a : AV} (h : plainAV a = true) {G' : Gh} {v : Value} (hv : VRel G a v) : VRel G' a v := by
  cases hv with
  | bool b => exact .bool b
  | int k n => exact .int k n
  | flt k n => exact .flt k n
  | cpx k a b => exact .cpx k a b
  | str hs => exact .str hs
  | nilp => exact .nilp
  | nils => exact .nils
  | nilm => exact .nilm
  | nilf => exact .nilf
  | nili => exact .nili
  | _ => simp [plainAV] at h

mutual
theorem TRel.mono {Bs Bs' : Nat → Prop} {w w' : World} (hb : ∀ b, Bs b → Bs' b) (hw : ∀ b, Bs b → w'.heap[b]? = w.heap[b]?) : ∀ (t : TV) (v : Value), TRel Bs w t v → TRel Bs' w' t v
  | .sc a, v, h => by rw [TRel] at h ⊢; exact h
  | .lst k len cs, v, h => by
    rw [TRel] at h ⊢
    obtain ⟨b, o, cap, c, el, fr, h1, h2, h3, h4, h5, h6, h7, h8⟩ := h
    exact ⟨b, o, cap, c, el, fr, h1, h2, h3, hb b h4, (hw b h4).trans h5, h6, h7, TRels.mono hb hw cs _ h8⟩
  | .agg cs, v, h => by
    rw [TRel] at h ⊢
    obtain ⟨c, h1, h2⟩ := h
    exact ⟨c, h1, TRels.mono hb hw cs _ h2⟩
  | .tup cs, v, h => by
    rw [TRel] at h ⊢
    obtain ⟨c, h1, h2⟩ := h
    exact ⟨c, h1, TRels.mono hb hw cs _ h2⟩
  | .ifc t x, v, h => by
    rw [TRel] at h ⊢
    obtain ⟨u, h1, h2⟩ := h
    exact ⟨u, h1, TRel.mono hb hw x u h2⟩
theorem TRels.mono {Bs Bs' : Nat → Prop} {w w' : World} (hb : ∀ b, Bs b → Bs' b) (hw : ∀ b, Bs b → w'.heap[b]? = w.heap[b]?) : ∀ (t : List TV) (v : List Value), TRels Bs w t v → TRels Bs' w' t v
  | [], v, h => by rw [TRels] at h ⊢; exact h
  | t :: ts, v, h => by
    rw [TRels] at h ⊢
    obtain ⟨u, us, h1, h2, h3⟩ := h
    exact ⟨u, us, h1, TRel.mono hb hw t u h2, TRels.mono hb hw ts us h3⟩
end
mutual
theorem TRel.flat {Bs Bs' : Nat → Prop} : ∀ (t : TV) (v : Value), flatT t = true → TRel Bs w t v → TRel Bs' w t v
  | .sc a, v, _, h => by rw [TRel] at h ⊢; exact h
  | .lst k len cs, v, hf, h => by simp [flatT] at hf
  | .agg cs, v, hf, h => by
    rw [flatT] at hf
    rw [TRel] at h ⊢
    obtain ⟨c, h1, h2⟩ := h
    exact ⟨c, h1, TRels.flat cs _ hf h2⟩
  | .tup cs, v, hf, h => by
    rw [flatT] at hf
    rw [TRel] at h ⊢
    obtain ⟨c, h1, h2⟩ := h
    exact ⟨c, h1, TRels.flat cs _ hf h2⟩
  | .ifc t x, v, hf, h => by
    rw [flatT] at hf
    rw [TRel] at h ⊢
    obtain ⟨u, h1, h2⟩ := h
    exact ⟨u, h1, TRel.flat x u hf h2⟩
theorem TRels.flat {Bs Bs' : Nat → Prop} : ∀ (t : List TV) (v : List Value), flatTs t = true → TRels Bs w t v → TRels Bs' w t v
  | [], v, _, h => by rw [TRels] at h ⊢; exact h
  | t :: ts, v, hf, h => by
    rw [flatTs, Bool.and_eq_true] at hf
    rw [TRels] at h ⊢
    obtain ⟨u, us, h1, h2, h3⟩ := h
    exact ⟨u, us, h1, TRel.flat t u hf.1 h2, TRels.flat ts us hf.2 h3⟩
end
mutual
theorem TV.eqb_eq : ∀ (a b : TV), a.eqb b = true → a = b
  | .sc a, b, h => by
    cases b with
    | sc c => rw [TV.eqb] at h; rw [AV.eqb_eq _ _ h]
    | _ => simp [TV.eqb] at h
  | .lst k n cs, b, h => by
    cases b with
    | lst k' n' cs' =>
      rw [TV.eqb, Bool.and_eq_true, Bool.and_eq_true, nbeq_eq, nbeq_eq, decide_eq_true_iff, decide_eq_true_iff] at h
      rw [h.1.1, h.1.2, teqs_eq cs cs' h.2]
    | _ => simp [TV.eqb] at h
  | .agg cs, b, h => by
    cases b with
    | agg cs' => rw [TV.eqb] at h; rw [teqs_eq cs cs' h]
    | _ => simp [TV.eqb] at h
  | .tup cs, b, h => by
    cases b with
    | tup cs' => rw [TV.eqb] at h; rw [teqs_eq cs cs' h]
    | _ => simp [TV.eqb] at h
  | .ifc t v, b, h => by
    cases b with
    | ifc u x =>
      rw [TV.eqb, Bool.and_eq_true, nbeq_eq, decide_eq_true_iff] at h
      rw [h.1, TV.eqb_eq v x h.2]
    | _ => simp [TV.eqb] at h
theorem teqs_eq : ∀ (a b : List TV), teqs a b = true → a = b
  | [], [], _ => rfl
  | [], _ :: _, h => by simp [teqs] at h
  | _ :: _, [], h => by simp [teqs] at h
  | a :: r, b :: s, h => by
    rw [teqs, Bool.and_eq_true] at h
    rw [TV.eqb_eq a b h.1, teqs_eq r s h.2]
end

/-! ### A tree is laid into memory -/
/-- An object that is never written shares a block with such ones. -/
theorem HR.share (h : HR C B G H w) (ht : H.nx < 2 ^ dH) {o : XObj} (hf : o.fixed = true) {x : Blk} (hlt : x.b < w.heap.size) (hsrc : B ≤ x.b ∨ C.S x.b) (hfix : ∀ j p y, j < H.nx → H.get j = some p → G j = some y → y.b = x.b → p.fixed = true)
    (ho : ORel C (G.add H.nx x) w x o) : HR C B (G.add H.nx x) (H.add o) w := by
  have hle : G.le (G.add H.nx x) := Gh.le_add x h.fresh
  have hget : ∀ j, j < H.nx + 1 → (H.add o).get j = if H.nx = j then some o else H.get j := fun j hj => Hp.get_add o ht (by have := h.top; omega)
  refine ⟨h.bs, ht, fun j hj => ?_, fun j y hy => ?_, fun j p y h1 h2 h3 => ?_, fun j j' p p' y y' h1 h1' h2 h2' h3 h3' e hne => ?_, fun j p y h1 h2 h3 hff => ?_, fun j y hy => ?_, fun g hg => ?_⟩
  · have : H.nx + 1 ≤ j := hj
    rw [Gh.add_other _ _ (by omega)]; exact h.dom j (by omega)
  · by_cases e : j = H.nx
    · subst e; rw [Gh.add_same] at hy; cases hy; exact hlt
    · rw [Gh.add_other _ _ e] at hy; exact h.lt j y hy
  · by_cases e : j = H.nx
    · subst e
      rw [Gh.add_same] at h3; cases h3
      rw [hget _ (Nat.lt_succ_self _), if_pos rfl] at h2; cases h2
      exact ho
    · rw [Gh.add_other _ _ e] at h3
      rw [hget _ h1, if_neg (Ne.symm e)] at h2
      exact (h.ob j p y (h.id_lt h3) h2 h3).keep hle rfl
  · by_cases e1 : j = H.nx
    · subst e1
      rw [Gh.add_same] at h3; cases h3
      rw [hget _ (Nat.lt_succ_self _), if_pos rfl] at h2; cases h2
      rw [Gh.add_other _ _ (Ne.symm hne)] at h3'
      rw [hget _ h1', if_neg hne] at h2'
      exact ⟨hf, hfix j' p' y' (h.id_lt h3') h2' h3' e.symm⟩
    · rw [Gh.add_other _ _ e1] at h3
      rw [hget _ h1, if_neg (Ne.symm e1)] at h2
      by_cases e2 : j' = H.nx
      · subst e2
        rw [Gh.add_same] at h3'; cases h3'
        rw [hget _ (Nat.lt_succ_self _), if_pos rfl] at h2'; cases h2'
        exact ⟨hfix j p y (h.id_lt h3) h2 h3 e, hf⟩
      · rw [Gh.add_other _ _ e2] at h3'
        rw [hget _ h1', if_neg (Ne.symm e2)] at h2'
        exact h.inj j j' p p' y y' (h.id_lt h3) (h.id_lt h3') h2 h2' h3 h3' e hne
  · by_cases e : j = H.nx
    · subst e
      rw [hget _ (Nat.lt_succ_self _), if_pos rfl] at h2; cases h2
      rw [hf] at hff; cases hff
    · rw [Gh.add_other _ _ e] at h3
      rw [hget _ h1, if_neg (Ne.symm e)] at h2
      exact h.own j p y (h.id_lt h3) h2 h3 hff
  · by_cases e : j = H.nx
    · subst e; rw [Gh.add_same] at hy; cases hy; exact hsrc
    · rw [Gh.add_other _ _ e] at hy; exact h.src j y hy
  · obtain ⟨y, hy, q⟩ := h.gl g hg
    exact ⟨y, hle _ _ hy, q⟩
/-- Blocks that may be shared. -/
def Shr (C : Cx) (B : Nat) (Bs : Nat → Prop) (G : Gh) (H : Hp) : Prop := ∀ b, Bs b → (B ≤ b ∨ C.S b) ∧ ∀ j p y, j < H.nx → H.get j = some p → G j = some y → y.b = b → p.fixed = true
mutual
theorem plant_sound {Z : Type} {Bs : Nat → Prop} : ∀ (t : TV) (v : Value) {G : Gh} {H : Hp} {k : AV → Hp → E Z} {r : Z}, plant t H k = .ok r → TRel Bs w t v → HR C B G H w → Shr C B Bs G H →
    ∃ G' H' a, k a H' = .ok r ∧ HR C B G' H' w ∧ Shr C B Bs G' H' ∧ Gh.ext H.nx G G' ∧ H.nx ≤ H'.nx ∧ VRel G' a v
  | .sc a, v, G, H, k, r, h, ht, hr, hs => by
    rw [TRel] at ht
    exact ⟨G, H, a, h, hr, hs, Gh.ext_refl _ _, Nat.le_refl _, plain_rel ht.1 ht.2⟩
  | .lst kk len cs, v, G, H, k, r, h, ht, hr, hs => by
    rw [TRel] at ht
    obtain ⟨b, o, cap, c, el, fr, rfl, h2, h3, h4, h5, h6, h7, h8⟩ := ht
    rw [plant] at h
    obtain ⟨G1, H1, l, g1, g2, g3, g4, g5, g6⟩ := plants_sound cs _ h h8 hr hs
    obtain ⟨ob, hob, g7⟩ := E.b_inv g1
    obtain ⟨hnx, g8⟩ := Hp.new_inv g7
    obtain ⟨d, rfl, a1, a2⟩ := mkArr_inv hob
    have hlen : l.length = len * kk := by have := g6.1; simpa using this
    obtain ⟨x, hx1, hx2, hx3, hx4, hx5⟩ : ∃ x : Blk, x.b = b ∧ x.k = kk ∧ x.base + x.sz ≤ c.size ∧ l.length ≤ x.sz ∧ (cap = 0 ∨ (o = x.base + 0 ∧ 0 + cap * x.k ≤ x.sz)) := by
      by_cases hc : cap = 0
      · have : len = 0 := by omega
        subst this
        exact ⟨⟨b, 0, kk, 0⟩, rfl, rfl, by simp, by simp [hlen], .inl hc⟩
      · refine ⟨⟨b, o, kk, cap * kk⟩, rfl, rfl, h6.resolve_left hc, ?_, .inr ⟨by simp, by simp⟩⟩
        rw [hlen]; exact Nat.mul_le_mul_right _ h2
    have hfix := (g3 b h4).2
    have hle : G1.le (G1.add H1.nx x) := Gh.le_add x g2.fresh
    have hbl : b < w.heap.size := by
      rcases Nat.lt_or_ge b w.heap.size with q | q
      · exact q
      · rw [Array.getElem?_eq_none q] at h5; cases h5
    have hORel : ORel C (G1.add H1.nx x) w x (.arr none false kk d l.length (putT d l 0 .e) true) := by
      refine arr_rel hx2 a2 a1 (by rw [hx1]; exact h5) (fun q => by cases q) hx3 hx4 (fun t q => by cases q) (fun q => by cases q) (fun j hj => ?_)
      have h9 := (g6.2 j hj).mono hle
      have e : ((List.range (len * kk)).map fun j => c.getD (o + j) undef).getD j undef = c.getD (o + j) undef := by
        have : j < len * kk := by omega
        simp [List.getD_eq_getElem?_getD, this]
      rw [e] at h9
      rcases hx5 with q | ⟨q, _⟩
      · have : len = 0 := by omega
        subst this
        rw [Nat.zero_mul] at hlen; omega
      · have : x.base + j = o + j := by omega
        rw [this]; exact h9
    have hshare := g2.share hnx (o := .arr none false kk d l.length (putT d l 0 .e) true) rfl (x := x) (by rw [hx1]; exact hbl) (by rw [hx1]; exact (g3 b h4).1) (by rw [hx1]; exact hfix) hORel
    refine ⟨G1.add H1.nx x, _, _, g8, hshare, fun b' hb' => ⟨(g3 b' hb').1, fun j p y q1 q2 q3 q4 => ?_⟩, Gh.ext_trans g4 (Gh.ext_add x g2.fresh) g5, Nat.le_trans g5 (Nat.le_succ _), ?_⟩
    · by_cases e : j = H1.nx
      · subst e
        rw [Hp.get_add _ hnx hnx, if_pos rfl] at q2
        cases q2; rfl
      · rw [Gh.add_other _ _ e] at q3
        rw [Hp.get_add _ hnx (g2.id_lt' q3), if_neg (Ne.symm e)] at q2
        exact (g3 b' hb').2 j p y (g2.id_lt q3) q2 q3 q4
    · have := VRel.sl (G := G1.add H1.nx x) (id := H1.nx) (off := 0) (len := len) (cap := cap) (o := o) (c := none) (x := x) (Gh.add_same _ _ _) h2 h3 (fun _ q => by cases q) (hx5.imp id fun q => q.1) (hx5.imp id fun q => q.2)
      rw [hx1] at this
      exact this
  | .agg cs, v, G, H, k, r, h, ht, hr, hs => by
    rw [TRel] at ht
    obtain ⟨c, rfl, h2⟩ := ht
    rw [plant] at h
    obtain ⟨G1, H1, l, g1, g2, g3, g4, g5, g6⟩ := plants_sound cs _ h h2 hr hs
    exact ⟨G1, H1, _, g1, g2, g3, g4, g5, .ofAgg g6⟩
  | .tup cs, v, G, H, k, r, h, ht, hr, hs => by
    rw [TRel] at ht
    obtain ⟨c, rfl, h2⟩ := ht
    rw [plant] at h
    obtain ⟨G1, H1, l, g1, g2, g3, g4, g5, g6⟩ := plants_sound cs _ h h2 hr hs
    exact ⟨G1, H1, _, g1, g2, g3, g4, g5, .ofTup g6⟩
  | .ifc t x, v, G, H, k, r, h, ht, hr, hs => by
    rw [TRel] at ht
    obtain ⟨u, rfl, h2⟩ := ht
    rw [plant] at h
    obtain ⟨G1, H1, a, g1, g2, g3, g4, g5, g6⟩ := plant_sound x u h h2 hr hs
    exact ⟨G1, H1, _, g1, g2, g3, g4, g5, .ifc g6⟩
theorem plants_sound {Z : Type} {Bs : Nat → Prop} : ∀ (t : List TV) (v : List Value) {G : Gh} {H : Hp} {k : List AV → Hp → E Z} {r : Z}, plants t H k = .ok r → TRels Bs w t v → HR C B G H w → Shr C B Bs G H →
    ∃ G' H' a, k a H' = .ok r ∧ HR C B G' H' w ∧ Shr C B Bs G' H' ∧ Gh.ext H.nx G G' ∧ H.nx ≤ H'.nx ∧ VRels G' a v
  | [], v, G, H, k, r, h, ht, hr, hs => by
    rw [TRels] at ht
    subst ht
    exact ⟨G, H, [], h, hr, hs, Gh.ext_refl _ _, Nat.le_refl _, .nil G⟩
  | t :: ts, v, G, H, k, r, h, ht, hr, hs => by
    rw [TRels] at ht
    obtain ⟨u, us, rfl, h2, h3⟩ := ht
    rw [plants] at h
    obtain ⟨G1, H1, a, g1, g2, g3, g4, g5, g6⟩ := plant_sound t u h h2 hr hs
    obtain ⟨G2, H2, l, k1, k2, k3, k4, k5, k6⟩ := plants_sound ts us g1 h3 g2 g3
    exact ⟨G2, H2, _, k1, k2, k3, Gh.ext_trans g4 k4 g5, Nat.le_trans g5 k5, .cons (g6.mono k4.1) k6⟩
end

/-! ### A value is read as a tree -/
/-- What is read stays, at most never to be written. -/
def Frz (H H' : Hp) : Prop := H'.nx = H.nx ∧ ∀ id o, id < H.nx → H.get id = some o → ∃ o', H'.get id = some o' ∧ (o.fixed = true → o'.fixed = true)
theorem Frz.refl (H : Hp) : Frz H H := ⟨rfl, fun _ o _ h => ⟨o, h, id⟩⟩
theorem Frz.trans {a b c : Hp} (h : Frz a b) (k : Frz b c) : Frz a c := ⟨k.1.trans h.1, fun id o hid ho => by
  obtain ⟨o', h1, h2⟩ := h.2 id o hid ho
  obtain ⟨o'', h3, h4⟩ := k.2 id o' (by rw [h.1]; exact hid) h1
  exact ⟨o'', h3, fun q => h4 (h2 q)⟩⟩
/-- The blocks of what has been read. -/
def Seen (fz : Bool) (G : Gh) (H : Hp) (b : Nat) : Prop := ∃ j p y, j < H.nx ∧ H.get j = some p ∧ G j = some y ∧ y.b = b ∧ (fz = true → p.fixed = true)
theorem Seen.mono {fz : Bool} {H' : Hp} (hf : Frz H H') {b : Nat} (h : Seen fz G H b) : Seen fz G H' b := by
  obtain ⟨j, p, y, h1, h2, h3, h4, h5⟩ := h
  obtain ⟨p', q1, q2⟩ := hf.2 j p h1 h2
  exact ⟨j, p', y, by rw [hf.1]; exact h1, q1, h3, h4, fun q => q2 (h5 q)⟩
theorem HR.freeze (hr : HR C B G H w) {id : Nat} {x : Blk} (hx : G id = some x) {e : Option TypeId} {ex : Bool} {k d n : Nat} {cs : Tr AV} {ro : Bool} (hg : H.get id = some (.arr e ex k d n cs ro)) : HR C B G (H.upd id (.arr e ex k d n cs true)) w ∧ Frz H (H.upd id (.arr e ex k d n cs true)) := by
  have hid := hr.id_lt hx
  have hid' := hr.id_lt' hx
  have get : ∀ j, j < H.nx → (H.upd id (.arr e ex k d n cs true)).get j = if id = j then some (.arr e ex k d n cs true) else H.get j := fun j hj => Hp.get_upd _ hid' (Nat.lt_of_lt_of_le hj hr.top)
  -- what an object was
  have was : ∀ j p, j < H.nx → (H.upd id (.arr e ex k d n cs true)).get j = some p → ∃ p0, H.get j = some p0 ∧ (p0.fixed = true → p.fixed = true) ∧ (p.fixed = false → p0 = p) ∧ ∀ y, ORel C G w y p0 → ORel C G w y p := by
    intro j p hj hp
    rw [get j hj] at hp
    by_cases q : id = j
    · subst q
      rw [if_pos rfl] at hp; cases hp
      refine ⟨_, hg, fun _ => rfl, fun h => (by cases h), fun y hy => ?_⟩
      obtain ⟨q1, q2, q3, c, el, fr, q4, q5, q6⟩ := hy
      exact ⟨q1, q2, q3, c, el, fr, q4, (fun h => by cases h), q6⟩
    · rw [if_neg q] at hp
      exact ⟨p, hp, fun h => h, fun _ => rfl, fun _ h => h⟩
  refine ⟨⟨hr.bs, hr.top, hr.dom, hr.lt, fun j p y h1 h2 h3 => ?_, fun j j' p p' y y' h1 h1' h2 h2' h3 h3' hb hne => ?_, fun j p y h1 h2 h3 hf => ?_, hr.src, hr.gl⟩, rfl, fun j o hj ho => ?_⟩
  · obtain ⟨p0, q1, _, _, q4⟩ := was j p h1 h2
    exact q4 y (hr.ob j p0 y h1 q1 h3)
  · obtain ⟨p0, q1, q2, _, _⟩ := was j p h1 h2
    obtain ⟨p1, r1, r2, _, _⟩ := was j' p' h1' h2'
    have := hr.inj j j' p0 p1 y y' h1 h1' q1 r1 h3 h3' hb hne
    exact ⟨q2 this.1, r2 this.2⟩
  · obtain ⟨p0, q1, _, q3, _⟩ := was j p h1 h2
    have := q3 hf
    subst this
    exact hr.own j p0 y h1 q1 h3 hf
  · rw [get j hj]
    by_cases q : id = j
    · subst q
      rw [if_pos rfl]
      exact ⟨_, rfl, fun _ => rfl⟩
    · rw [if_neg q]; exact ⟨o, ho, fun h => h⟩

theorem mapK_sound {Z : Type} {fz : Bool} {d : Nat}
    (ih : ∀ (v : AV) (u : Value) {H : Hp} {k : TV → Hp → E Z} {r : Z}, reify fz d v H k = .ok r → VRel G v u → HR C B G H w → ∃ t H', k t H' = .ok r ∧ HR C B G H' w ∧ Frz H H' ∧ TRel (Seen fz G H') w t u) :
    ∀ (l : List AV) (us : List Value) {H : Hp} {k : List TV → Hp → E Z} {r : Z}, mapK (reify fz d) l H k = .ok r → VRels G l us → HR C B G H w → ∃ t H', k t H' = .ok r ∧ HR C B G H' w ∧ Frz H H' ∧ TRels (Seen fz G H') w t us ∧ t.length = l.length
  | [], us, H, k, r, h, hv, hr => by
    have := hv.nil_inv; subst this
    exact ⟨[], H, h, hr, Frz.refl H, by rw [TRels], rfl⟩
  | a :: l, us, H, k, r, h, hv, hr => by
    obtain ⟨u, us', rfl, h1, h2⟩ := hv.cons_inv
    rw [mapK] at h
    obtain ⟨t, H1, g1, g2, g3, g4⟩ := ih a u h h1 hr
    obtain ⟨ts, H2, k1, k2, k3, k4, k5⟩ := mapK_sound ih l us' g1 h2 g2
    refine ⟨t :: ts, H2, k1, k2, g3.trans k3, ?_, by simp [k5]⟩
    rw [TRels]
    exact ⟨u, us', rfl, TRel.mono (fun b hb => hb.mono k3) (fun _ _ => rfl) t u g4, k4⟩
theorem reify_sound {Z : Type} {fz : Bool} : ∀ (d : Nat) (v : AV) (u : Value) {H : Hp} {k : TV → Hp → E Z} {r : Z}, reify fz d v H k = .ok r → VRel G v u → HR C B G H w →
    ∃ t H', k t H' = .ok r ∧ HR C B G H' w ∧ Frz H H' ∧ TRel (Seen fz G H') w t u
  | 0, v, u, H, k, r, h, hv, hr => by rw [reify] at h; exact nomatch h
  | d + 1, v, u, H, k, r, h, hv, hr => by
    have ih := mapK_sound (C := C) (B := B) (G := G) (w := w) (Z := Z) (fz := fz) (d := d) (fun v u {H} {k} {r} => reify_sound d v u)
    cases v with
    | sl id off len cap =>
      have h : (match H.get id with
        | some (.arr e ex kk dd n cs ro) => E.whn (Nat.ble (off + len * kk) n) 190 ((force off fun off => getCs dd cs (len * kk) off).b fun l =>
            bif fz then H.setK id (.arr e ex kk dd n cs true) fun H => mapK (reify fz d) l H fun ts H => force kk fun kk => k (.lst kk len ts) H
            else mapK (reify fz d) l H fun ts H => force kk fun kk => k (.lst kk len ts) H)
        | _ => .er 190 : E Z) = .ok r := h
      split at h
      · next e ex kk dd n cs ro hg =>
        obtain ⟨h1, h2⟩ := E.whn_inv h
        rw [nble_eq, decide_eq_true_iff] at h1
        rw [force_eq] at h2
        obtain ⟨l, hl, h3⟩ := E.b_inv h2
        cases hv with | @sl _ _ _ capC o _ x hx hle hm hcc ho hsz =>
        obtain ⟨q1, q2, q3, c, el, fr, q4, q5, q6, q7, q8, q9⟩ := hr.ob id _ x (hr.id_lt hx) hg hx
        obtain ⟨g1, g2⟩ := getCs_inv hl
        have hco : len * kk ≠ 0 → capC ≠ 0 := fun q1 q2 => by
          have : len = 0 := by omega
          subst this; simp at q1
        have hvr : VRels G l ((List.range (len * kk)).map fun j => c.getD (o + j) undef) := by
          have := VRels.of_fn (G := G) (as := l) (f := fun j => c.getD (o + j) undef) (fun j hj => by
            obtain ⟨a, a1, a2, a3⟩ := q9 (off + j) (by omega)
            rw [g2 j hj] at a1; cases a1
            have : o = x.base + off := ho.resolve_left (hco (by omega))
            rw [this, Nat.add_assoc]; exact a3)
          rwa [g1] at this
        have hcap : capC = 0 ∨ o + capC * kk ≤ c.size := by
          by_cases hc : capC = 0
          · exact .inl hc
          · right
            have e1 := ho.resolve_left hc
            have e2 := hsz.resolve_left hc
            rw [q1] at e2
            omega
        have fin : ∀ {H1 : Hp}, HR C B G H1 w → Frz H H1 → (∀ H2, Frz H1 H2 → Seen fz G H2 x.b) → mapK (reify fz d) l H1 (fun ts H => force kk fun kk => k (.lst kk len ts) H) = .ok r → ∃ t H', k t H' = .ok r ∧ HR C B G H' w ∧ Frz H H' ∧ TRel (Seen fz G H') w t (.slice (some ⟨x.b, o, none⟩) len capC) := by
          intro H1 hr1 hf1 hs1 hm1
          obtain ⟨ts, H2, k1, k2, k3, k4, k5⟩ := ih l _ hm1 hvr hr1
          rw [force_eq] at k1
          refine ⟨_, H2, k1, k2, hf1.trans k3, ?_⟩
          rw [TRel]
          exact ⟨x.b, o, capC, c, el, fr, rfl, hle, hm, hs1 H2 k3, q4, hcap, by rw [k5, g1], k4⟩
        cases fz with
        | true =>
          rw [cond_true, Hp.setK_eq] at h3
          obtain ⟨f1, f2⟩ := hr.freeze hx hg
          refine fin f1 f2 (fun H2 hf2 => ?_) h3
          have hgu : (H.upd id (.arr e ex kk dd n cs true)).get id = some (.arr e ex kk dd n cs true) := by rw [Hp.get_upd _ (hr.id_lt' hx) (hr.id_lt' hx), if_pos rfl]
          have : Seen true G (H.upd id (.arr e ex kk dd n cs true)) x.b := ⟨id, _, x, hr.id_lt hx, hgu, hx, rfl, fun _ => rfl⟩
          exact this.mono hf2
        | false =>
          rw [cond_false] at h3
          refine fin hr (Frz.refl H) (fun H2 hf2 => ?_) h3
          have : Seen false G H x.b := ⟨id, _, x, hr.id_lt hx, hg, hx, rfl, fun q => by cases q⟩
          exact this.mono hf2
      · exact nomatch h
    | agg cs =>
      obtain ⟨c, rfl, hc⟩ := hv.agg_inv
      obtain ⟨ts, H2, k1, k2, k3, k4, k5⟩ := ih cs _ (show mapK (reify fz d) cs H (fun ts H => k (.agg ts) H) = .ok r from h) hc hr
      exact ⟨_, H2, k1, k2, k3, by rw [TRel]; exact ⟨c, rfl, k4⟩⟩
    | tup cs =>
      obtain ⟨c, rfl, hc⟩ := hv.tup_inv
      obtain ⟨ts, H2, k1, k2, k3, k4, k5⟩ := ih cs _ (show mapK (reify fz d) cs H (fun ts H => k (.tup ts) H) = .ok r from h) hc hr
      exact ⟨_, H2, k1, k2, k3, by rw [TRel]; exact ⟨c, rfl, k4⟩⟩
    | ifc t x =>
      cases hv with | @ifc _ _ u' hv' =>
      obtain ⟨ts, H2, k1, k2, k3, k4⟩ := reify_sound d x u' (show reify fz d x H (fun x H => k (.ifc t x) H) = .ok r from h) hv' hr
      exact ⟨_, H2, k1, k2, k3, by rw [TRel]; exact ⟨u', rfl, k4⟩⟩
    | _ =>
      simp only [reify] at h
      obtain ⟨h1, h2⟩ := E.whn_inv h
      exact ⟨_, H, h2, hr, Frz.refl H, by rw [TRel]; exact ⟨h1, plain_rel h1 hv⟩⟩
end
end Go.X

/- The interpreter is right, part 32: a run. -/
namespace Go.X
open Go
section
variable {C : Cx} {B : Nat} {G : Gh} {H : Hp} {w : World} {f0 : FuncId} {cs0 : List Frame} {n0 : Nat}

/-- The tables lie in memory. -/
def Base (H0 : Hp) (w : World) : Prop := 2 ≤ w.heap.size ∧ H0.nx ≤ 2 ^ dH ∧ ∃ G0 : Gh, (∀ g, g < 2 → ∃ x, G0 g = some x ∧ x.b = g ∧ x.base = 0) ∧ (∀ id, 2 ≤ id → G0 id = none) ∧ 2 ≤ H0.nx ∧
  ∀ id o x, id < 2 → H0.get id = some o → G0 id = some x → o.fixed = true ∧ ∀ C, ORel C G0 w x o
theorem Base.keep {H0 : Hp} (h : Base H0 w) {B : Nat} (hB : 2 ≤ B) {w' : World} (hk : WK B w w') : Base H0 w' := by
  obtain ⟨h1, h2, G0, h3, h4, h5, h6⟩ := h
  refine ⟨Nat.le_trans h1 hk.size, h2, G0, h3, h4, h5, fun id o x hid ho hx => ⟨(h6 id o x hid ho hx).1, fun C => ?_⟩⟩
  obtain ⟨y, q1, q2, q3⟩ := h3 id hid
  rw [q1] at hx; cases hx
  exact ((h6 id o x hid ho q1).2 C).keep G0.le_refl (hk.keep _ (by omega))
theorem Base.hr {H0 : Hp} (h : Base H0 w) (C : Cx) (hS : ∀ b, b < 2 → C.S b) {B : Nat} (hB : B ≤ w.heap.size) : ∃ G0, HR C B G0 H0 w ∧ ∀ id x, G0 id = some x → x.b < 2 ∧ ∀ o, H0.get id = some o → o.fixed = true := by
  obtain ⟨h1, h2, G0, h3, h4, h5, h6⟩ := h
  have hd : ∀ id x, G0 id = some x → id < 2 ∧ x.b = id ∧ x.base = 0 := by
    intro id x hx
    have hid : id < 2 := by
      rcases Nat.lt_or_ge id 2 with q | q
      · exact q
      · rw [h4 id q] at hx; cases hx
    obtain ⟨y, q1, q2, q3⟩ := h3 id hid
    rw [q1] at hx; cases hx
    exact ⟨hid, q2, q3⟩
  refine ⟨G0, ⟨hB, h2, fun id hid => h4 id (by omega), fun id x hx => (by have := hd id x hx; omega), fun id o x _ ho hx => ((h6 id o x (hd id x hx).1 ho hx).2 C), fun id id' o o' x x' _ _ ho ho' hx hx' _ _ => ⟨(h6 id o x (hd id x hx).1 ho hx).1, (h6 id' o' x' (hd id' x' hx').1 ho' hx').1⟩,
    fun id o x _ ho hx hf => (by rw [(h6 id o x (hd id x hx).1 ho hx).1] at hf; cases hf), fun id x hx => .inr (hS _ (by have := hd id x hx; omega)), h3⟩, fun id x hx => ⟨by have := hd id x hx; omega, fun o ho => (h6 id o x (hd id x hx).1 ho hx).1⟩⟩

/-- What is known of a call. -/
def EntOK (P : Program) (H0 : Hp) (e : FuncId × List TV × TV) : Prop := ∀ (w : World) (Bs : Nat → Prop) (us : List Value), Base H0 w → TRels Bs w e.2.1 us → (∀ b, Bs b → b < w.heap.size) →
  Calls P e.1 us.toArray w fun en w' => ∃ u, en = .returned u ∧ WK w.heap.size w w' ∧ TRel (fun b => Bs b ∨ b < 2 ∨ w.heap.size ≤ b) w' e.2.2 u

theorem findE_inv {f : FuncId} {args : List TV} {res : TV} : ∀ {l : List (FuncId × List TV × TV)}, findE f args l = some res → (f, args, res) ∈ l
  | [], h => nomatch h
  | e :: l, h => by
    have h : (Bool.rec (findE f args l) (Bool.rec (findE f args l) (some e.2.2) (teqs e.2.1 args)) (Nat.beq e.1 f) : Option TV) = some res := h
    cases h1 : Nat.beq e.1 f with
    | false => rw [h1] at h; exact List.mem_cons_of_mem _ (findE_inv h)
    | true =>
      rw [h1] at h
      cases h2 : teqs e.2.1 args with
      | false => rw [h2] at h; exact List.mem_cons_of_mem _ (findE_inv h)
      | true =>
        rw [h2] at h
        cases h
        rw [nbeq_eq, decide_eq_true_iff] at h1
        obtain ⟨f', a', r'⟩ := e
        simp only at h1 h2
        rw [h1, teqs_eq _ _ h2]
        exact List.mem_cons_self

/-- How a run ends. -/
def Fin' (C : Cx) (B : Nat) (f0 : FuncId) (cs0 : List Frame) (n0 : Nat) (G : Gh) (w : World) (m : Machine) (o : Out) : Prop :=
  ∃ G' f w' u, Steps C.K.P m (lone f cs0 w') ∧ Gh.agr n0 G G' ∧ WK B w w' ∧ HR C B G' o.H w' ∧ VRel G' o.v u ∧ n0 ≤ o.H.nx ∧ f.fn = f0 ∧ f.leaving C.K.P w' (.returned u)
theorem Fin'.pre {G0 : Gh} {w0 : World} {m0 m : Machine} {o : Out} (h : Fin' C B f0 cs0 n0 G w m o) (hs : Steps C.K.P m0 m) (hg : Gh.agr n0 G0 G) (hw : WK B w0 w) : Fin' C B f0 cs0 n0 G0 w0 m0 o := by
  obtain ⟨G', f, w', u, h1, h2, h3, h4⟩ := h
  exact ⟨G', f, w', u, hs.trans h1, Gh.agr_trans hg h2, hw.trans h3, h4⟩

/-- Memory where a call has left alone what was. -/
theorem HR.later (h : HR C B G H w) {w' : World} (hk : WK w.heap.size w w') : HR C B G H w' where
  bs := Nat.le_trans h.bs hk.size
  top := h.top
  dom := h.dom
  lt id x hx := Nat.lt_of_lt_of_le (h.lt id x hx) hk.size
  ob id o x h1 h2 h3 := (h.ob id o x h1 h2 h3).keep G.le_refl (hk.keep _ (h.lt id x h3))
  inj := h.inj
  own := h.own
  src := h.src
  gl := h.gl
theorem WK.le {B B' : Nat} {w w' : World} (h : WK B w w') (hB : B' ≤ B) : WK B' w w' := ⟨h.os, h.tape, h.output, h.size, fun b hb => h.keep b (by omega)⟩

theorem xrun_sound {H0 : Hp} (hK : KOK C.K) (hB : 2 ≤ B) (hM : ∀ e ∈ C.K.M, EntOK C.K.P H0 e) : ∀ (fuel : Nat) (f0 : FuncId) (cs0 : List Frame) (n0 : Nat) (s : SR) (o : Out) (G : Gh) (w : World) (m : Machine), 2 ≤ n0 → xrun C.K fuel n0 s = .ok o → Base H0 w → Reach C B f0 cs0 n0 G w m s → Fin' C B f0 cs0 n0 G w m o := by
  intro fuel
  induction fuel with
  | zero => intro f0 cs0 n0 s o G w m _ h; exact nomatch h
  | succ fuel ih =>
    intro f0 cs0 n0 s o G w m hn2 h hbase hreach
    replace h : (match (generalizing := false) s with
      | .go H base todo fr cs => xrun C.K fuel n0 (stepX C.K H base todo fr cs)
      | .unw H base fr cs => xrun C.K fuel n0 (unwind C.K H base fr cs)
      | .done v H => .ok ⟨v, H⟩
      | .er s => .er s
      | .branch l base todo fr cs => agree (l.map fun x => (xrun C.K fuel n0 (finish x.2 base todo fr cs x.1)).b (canon n0))
      | .jump f args H base todo fr cs => bif C.K.memo.testBit f then
          (match (mapK (reify (C.K.frz.testBit f) 100) args H fun l H => .ok (l, H) : E (List TV × Hp)) with
          | .ok (targs, H) => match findE f targs C.K.M with
            | some res => E.whn (C.K.frz.testBit f || flatT res) 198 (plant res H fun v H => xrun C.K fuel n0 (finish H base todo fr cs v))
            | none => .er 1000
          | .er _ => xrun C.K fuel n0 (enterF C.K f args .normal H (⟨base, todo, fr, .run⟩ :: cs)))
        else (xrun C.K fuel H.nx (enterF C.K f args .normal H [])).b fun o => xrun C.K fuel n0 (finish o.H base todo fr cs o.v) : E Out) = .ok o := h
    cases s with
    | er s => exact nomatch h
    | done v H =>
      cases h
      obtain ⟨G', m', h1, h2, h3, f, w1, u, rfl, h5, h6, h7, h8, h9⟩ := hreach
      exact ⟨G', f, w1, u, h1, h2.agr, h3, h5, h7, h6, h8, h9⟩
    | go H base todo fr cs =>
      obtain ⟨G', m', h1, h2, h3, f, fs, w1, lo, rfl, h5, h6, h7, h8, h9, h10, h11⟩ := hreach
      have := step_sim hK h5 h6 h7 h8 h9 h10 h11
      exact (ih f0 cs0 n0 _ o G' w1 _ hn2 h (hbase.keep hB h3) this).pre h1 h2.agr h3
    | unw H base fr cs =>
      obtain ⟨G', m', h1, h2, h3, f, fs, w1, lo, rfl, h5, h6, h7, h8, h9, h10, h11, h12⟩ := hreach
      have := unwind_sim hK h5 h6 h7 h8 h9 h10 h11 h12
      exact (ih f0 cs0 n0 _ o G' w1 _ hn2 h (hbase.keep hB h3) this).pre h1 h2.agr h3
    | branch l base todo fr cs =>
      obtain ⟨x, hx, hr0⟩ := hreach
      obtain ⟨o', h1, h2, h3, h4⟩ := agree_inv h _ (List.mem_map.2 ⟨x, hx, rfl⟩)
      obtain ⟨o1, h5, h6⟩ := E.b_inv h1
      obtain ⟨G', f, w', u, k1, k2, k3, k4, k5, k6, k7, k8⟩ := ih f0 cs0 n0 _ o1 G w m hn2 h5 hbase (.of hr0)
      obtain ⟨G2, c1, c2, c3, c4⟩ := canon_sound k4 hn2 k5 (show canon n0 ⟨o1.v, o1.H⟩ = .ok o' from h6)
      refine ⟨G2, f, w', u, k1, Gh.agr_trans k2 c3, k3, c1.drop h3.symm (fun id p hid hp => h4 id (by omega) p hp), by rw [← h2]; exact c2, by omega, k7, k8⟩
    | jump f args H base todo fr cs =>
      obtain ⟨G', m', h1, h2, h3, fx, fs, w1, lo, us, rfl, h5, h6, h7, h8, h9, h10, h11, h12⟩ := hreach
      have hb1 := hbase.keep hB h3
      have h : (bif C.K.memo.testBit f then
          (match (mapK (reify (C.K.frz.testBit f) 100) args H fun l H => .ok (l, H) : E (List TV × Hp)) with
          | .ok (targs, H) => match findE f targs C.K.M with
            | some res => E.whn (C.K.frz.testBit f || flatT res) 198 (plant res H fun v H => xrun C.K fuel n0 (finish H base todo fr cs v))
            | none => .er 1000
          | .er _ => xrun C.K fuel n0 (enterF C.K f args .normal H (⟨base, todo, fr, .run⟩ :: cs)))
        else (xrun C.K fuel H.nx (enterF C.K f args .normal H [])).b fun o => xrun C.K fuel n0 (finish o.H base todo fr cs o.v) : E Out) = .ok o := h
      cases hmm : C.K.memo.testBit f with
      | true =>
        rw [hmm, cond_true] at h
        split at h
        · next targs H1 hre =>
          split at h
          · next res hfe =>
            obtain ⟨hfl, hpl⟩ := E.whn_inv h
            obtain ⟨t, H2, r1, r2, r3, r4, r5⟩ := mapK_sound (C := C) (B := B) (G := G') (w := w1) (fun v u {H} {k} {r} => reify_sound 100 v u) args us hre h8 h5
            cases r1
            have hent := hM _ (findE_inv hfe)
            have hsz : ∀ b, Seen (C.K.frz.testBit f) G' H1 b → b < w1.heap.size := by
              rintro b ⟨j, p, y, _, _, q3, q4, _⟩
              rw [← q4]; exact r2.lt j y q3
            obtain ⟨en, w2, fr2, ⟨u, rfl, e2, e3⟩, e4, e5, e6⟩ := hent w1 (Seen (C.K.frz.testBit f) G' H1) us hb1 r4 hsz (fx :: fs)
            have hstep := step_leave_returned (c := fx) (cs := fs) e6
            have hr2 := r2.later e2
            have hwk2 : WK B w1 w2 := e2.le h5.bs
            -- the blocks of what it gives
            have hfix : ∀ (fzz : C.K.frz.testBit f = true), Shr C B (fun b => Seen (C.K.frz.testBit f) G' H1 b ∨ b < 2 ∨ w1.heap.size ≤ b) G' H1 := by
              intro fzz b hb
              rcases hb with ⟨j, p, y, q1, q2, q3, q4, q5⟩ | hb | hb
              · refine ⟨by rw [← q4]; exact r2.src j y q3, fun j' p' y' a1 a2 a3 a4 => ?_⟩
                by_cases e : j = j'
                · subst e; rw [q2] at a2; cases a2; exact q5 fzz
                · exact (r2.inj j j' p p' y y' q1 a1 q2 a2 q3 a3 (q4.trans a4.symm) e).2
              · obtain ⟨x, q1, q2, q3⟩ := r2.gl b hb
                refine ⟨by rw [← q2]; exact r2.src b x q1, fun j' p' y' a1 a2 a3 a4 => ?_⟩
                cases hf : p'.fixed with
                | true => rfl
                | false => have := r2.own j' p' y' a1 a2 a3 hf; omega
              · refine ⟨.inl (Nat.le_trans h5.bs hb), fun j' p' y' a1 a2 a3 a4 => ?_⟩
                have := r2.lt j' y' a3
                omega
            have hplant : ∃ G3 H3 a, xrun C.K fuel n0 (finish H3 base todo fr cs a) = .ok o ∧ HR C B G3 H3 w2 ∧ Gh.ext H1.nx G' G3 ∧ H1.nx ≤ H3.nx ∧ VRel G3 a u := by
              cases hfz : C.K.frz.testBit f with
              | true =>
                obtain ⟨G3, H3, a, p1, p2, _, p4, p5, p6⟩ := plant_sound res u hpl e3 hr2 (hfix hfz)
                exact ⟨G3, H3, a, p1, p2, p4, p5, p6⟩
              | false =>
                rw [hfz, Bool.false_or] at hfl
                obtain ⟨G3, H3, a, p1, p2, _, p4, p5, p6⟩ := plant_sound (Bs := fun _ => False) res u hpl (TRel.flat res u hfl e3) hr2 (fun b hb => hb.elim)
                exact ⟨G3, H3, a, p1, p2, p4, p5, p6⟩
            obtain ⟨G3, H3, a, p1, p2, p4, p5, p6⟩ := hplant
            have hnx1 := r3.1
            rw [hnx1] at p4 p5
            have hgood := finish_sim p2 h6 h7 p5 (h9.mono p4) h10 (h11.mono (Gh.ext_le p4 h7)) h12 p6
            have := ih f0 cs0 n0 _ o G3 w2 _ hn2 p1 (hb1.keep hB hwk2) (.of ⟨G3, _, .refl _ _, Gh.ext_refl _ _, WK.refl _ _, hgood⟩)
            exact this.pre (h1.trans (Steps.trans e4 (.one hstep))) (Gh.agr_trans h2.agr (Gh.ext_le p4 (Nat.le_trans h6 h7)).agr) (h3.trans hwk2)
          · exact nomatch h
        · have hgood : Good0 C B f0 cs0 n0 G' (lone (Frame.enter C.K.P f us.toArray .normal) (fx :: fs) w1) (enterF C.K f args .normal H (⟨base, todo, fr, .run⟩ :: cs)) := enterF_sim hK h5 (Nat.le_trans h6 h7) h8 (.inl rfl) (.run (x := ⟨base, todo, fr, .run⟩) h6 h7 rfl h10 h9 h11) (fun _ _ => h12)
          have := ih f0 cs0 n0 _ o G' w1 _ hn2 h hb1 (.of ⟨G', _, .refl _ _, Gh.ext_refl _ _, WK.refl _ _, hgood⟩)
          exact this.pre h1 h2.agr h3
      | false =>
        rw [hmm, cond_false] at h
        obtain ⟨o1, q1, q2⟩ := E.b_inv h
        have hgood : Good0 C B f (fx :: fs) H.nx G' (lone (Frame.enter C.K.P f us.toArray .normal) (fx :: fs) w1) (enterF C.K f args .normal H []) := enterF_sim hK h5 (Nat.le_refl _) h8 (.inl rfl) .nil (fun _ _ => ⟨rfl, rfl, rfl⟩)
        obtain ⟨G3, f3, w3, u, k1, k2, k3, k4, k5, k6, k7, k8⟩ := ih f (fx :: fs) H.nx _ o1 G' w1 _ (by omega) q1 hb1 (.of ⟨G', _, .refl _ _, Gh.ext_refl _ _, WK.refl _ _, hgood⟩)
        have hstep := step_leave_returned (c := fx) (cs := fs) k8
        have hext : Gh.ext H.nx G' G3 := by
          refine ⟨fun id x hx => ?_, fun id hid hn => by rw [k2 id hid]; exact hn⟩
          rw [k2 id (h5.id_lt hx)]; exact hx
        have hgood2 := finish_sim k4 h6 h7 k6 (h9.mono hext) h10 (h11.mono (Gh.ext_le hext h7)) h12 k5
        have := ih f0 cs0 n0 _ o G3 w3 _ hn2 q2 (hb1.keep hB k3) (.of ⟨G3, _, .refl _ _, Gh.ext_refl _ _, WK.refl _ _, hgood2⟩)
        exact this.pre (h1.trans (k1.trans (.one hstep))) (Gh.agr_trans h2.agr (Gh.ext_le hext (Nat.le_trans h6 h7)).agr) (h3.trans k3)

/-- An entry that the kernel has run is so. -/
theorem entry_ok {K : Kn} {H0 : Hp} (hK : KOK K) (hM : ∀ e ∈ K.M, EntOK K.P H0 e) {fuel : Nat} {f : FuncId} {targs : List TV} {res : TV} (h : callOK K H0 fuel f targs res = true) : EntOK K.P H0 (f, targs, res) := by
  intro w Bs us hbase hargs hlt cs
  unfold callOK at h
  split at h
  · next v hv =>
    have hvr := TV.eqb_eq _ _ h
    subst hvr
    have h2 : 2 ≤ w.heap.size := hbase.1
    obtain ⟨G0, hr0, hfx⟩ := hbase.hr ⟨K, fun b => Bs b ∨ b < 2⟩ (fun b hb => .inr hb) (Nat.le_refl w.heap.size)
    have hshr : Shr ⟨K, fun b => Bs b ∨ b < 2⟩ w.heap.size Bs G0 H0 := fun b hb => ⟨.inr (.inl hb), fun j p y a1 a2 a3 a4 => (hfx j y a3).2 p a2⟩
    obtain ⟨G1, H1, as, g1, g2, g3, g4, g5, g6⟩ := plants_sound targs us (show plants targs H0 (fun args H => (xrun K fuel H.nx (enterF K f args .normal H [])).b fun o => reify false 100 o.v o.H fun t _ => .ok t) = .ok v from hv) hargs hr0 hshr
    obtain ⟨o, q1, q2⟩ := E.b_inv g1
    have hgood : Good0 ⟨K, fun b => Bs b ∨ b < 2⟩ w.heap.size f cs H1.nx G1 (lone (Frame.enter K.P f us.toArray .normal) cs w) (enterF K f as .normal H1 []) := enterF_sim (C := ⟨K, fun b => Bs b ∨ b < 2⟩) hK g2 (Nat.le_refl _) g6 (.inl rfl) .nil (fun _ _ => ⟨rfl, rfl, rfl⟩)
    have hnx : 2 ≤ H1.nx := by
      have := hbase.2.2
      obtain ⟨_, _, _, h5, _⟩ := this
      omega
    obtain ⟨G3, f3, w3, u, k1, k2, k3, k4, k5, k6, k7, k8⟩ := xrun_sound (C := ⟨K, fun b => Bs b ∨ b < 2⟩) hK h2 hM fuel f cs H1.nx _ o G1 w _ hnx q1 hbase (.of ⟨G1, _, .refl _ _, Gh.ext_refl _ _, WK.refl _ _, hgood⟩)
    obtain ⟨t, H4, r1, r2, r3, r4⟩ := reify_sound 100 o.v u q2 k5 k4
    cases r1
    refine ⟨.returned u, w3, f3, ⟨u, rfl, k3, TRel.mono (fun b hb => ?_) (fun _ _ => rfl) _ _ r4⟩, k1, k7, k8⟩
    obtain ⟨j, p, y, _, _, a3, a4, _⟩ := hb
    rcases r2.src j y a3 with q | q | q
    · rw [a4] at q; exact .inr (.inr q)
    · rw [a4] at q; exact .inl q
    · rw [a4] at q; exact .inr (.inl q)
  · cases h
end
end Go.X

/- The interpreter is right, part 33: tables in memory; a law without parameters. -/
namespace Go.X
open Go
section
variable {C : Cx} {w : World} {P : Program}

/-- A scalar as it lies in a cell. -/
def cellOf : AV → Value
  | .bool b => .bool b
  | .int k n => .int k n
  | _ => .nilIface
def isSc : AV → Bool
  | .bool _ | .int _ _ => true
  | _ => false
theorem sc_rels : ∀ {l : List AV}, l.all isSc = true → ∀ {G : Gh}, VRels G l (l.map cellOf)
  | [], _, G => .nil G
  | a :: l, h, G => by
    simp only [List.all_cons, Bool.and_eq_true] at h
    refine .cons ?_ (sc_rels h.2)
    cases a with
    | bool b => exact .bool b
    | int k n => exact .int k n
    | _ => cases h.1

noncomputable def tabsH (k0 : Nat) (l0 : List AV) (k1 : Nat) (l1 : List AV) : Tr XObj := match mkArr none false k0 l0 true, mkArr none false k1 l1 true with
  | .ok a, .ok b => Tr.putK a (path dH 0) .e fun t => Tr.putK b (path dH 1) t fun t => t
  | _, _ => .e
theorem tab_base {k0 k1 : Nat} {l0 l1 : List AV} (h0 : l0.all isSc = true) (h1 : l1.all isSc = true) {e0 e1 : TypeId} {f0 f1 : Nat × Nat} (w0 : w.heap[0]? = some (.cells (l0.map cellOf).toArray e0 f0)) (w1 : w.heap[1]? = some (.cells (l1.map cellOf).toArray e1 f1)) :
    Base ⟨tabsH k0 l0 k1 l1, 8⟩ w := by
  have emp : ∀ {α : Type} (p : List Bool), Tr.get p (Tr.e : Tr α) = none := fun p => by cases p <;> rfl
  have hsz : 2 ≤ w.heap.size := by
    rcases Nat.lt_or_ge 1 w.heap.size with q | q
    · exact q
    · rw [Array.getElem?_eq_none q] at w1; cases w1
  refine ⟨hsz, (show (8 : Nat) ≤ 2 ^ dH by decide), fun g => if g = 0 then some ⟨0, 0, k0, l0.length⟩ else if g = 1 then some ⟨1, 0, k1, l1.length⟩ else none, fun g hg => ?_, fun id hid => ?_, (show (2 : Nat) ≤ 8 by decide), fun id o x hid ho hx => ?_⟩
  · match g, hg with
    | 0, _ => exact ⟨_, rfl, rfl, rfl⟩
    | 1, _ => exact ⟨_, rfl, rfl, rfl⟩
  · show (if id = 0 then _ else if id = 1 then _ else none) = none
    rw [if_neg (by omega), if_neg (by omega)]
  · have ho : Tr.get (path dH id) (tabsH k0 l0 k1 l1) = some o := ho
    unfold tabsH at ho
    split at ho
    · next a b ha hb =>
      rw [Tr.putK_eq, Tr.putK_eq] at ho
      obtain ⟨d0, rfl, p1, p2⟩ := mkArr_inv ha
      obtain ⟨d1, rfl, q1, q2⟩ := mkArr_inv hb
      match id, hid with
      | 0, _ =>
        rw [get_put_path _ _ (by decide) (by decide), if_neg (by decide), get_put_path _ _ (by decide) (by decide), if_pos rfl] at ho
        cases ho
        cases hx
        refine ⟨rfl, fun C => arr_rel rfl p2 p1 w0 (fun q => by cases q) (by simp) (Nat.le_refl _) (fun t q => by cases q) (fun q => by cases q) (fun j hj => ?_)⟩
        have := (sc_rels h0 (G := fun g => if g = 0 then some ⟨0, 0, k0, l0.length⟩ else if g = 1 then some ⟨1, 0, k1, l1.length⟩ else none)).2 j hj
        simpa [Array.getD_eq_getD_getElem?, List.getD_eq_getElem?_getD] using this
      | 1, _ =>
        rw [get_put_path _ _ (by decide) (by decide), if_pos rfl] at ho
        cases ho
        cases hx
        refine ⟨rfl, fun C => arr_rel rfl q2 q1 w1 (fun q => by cases q) (by simp) (Nat.le_refl _) (fun t q => by cases q) (fun q => by cases q) (fun j hj => ?_)⟩
        have := (sc_rels h1 (G := fun g => if g = 0 then some ⟨0, 0, k0, l0.length⟩ else if g = 1 then some ⟨1, 0, k1, l1.length⟩ else none)).2 j hj
        simpa [Array.getD_eq_getD_getElem?, List.getD_eq_getElem?_getD] using this
    · rw [emp] at ho; cases ho

/-! ### What a row lists -/
theorem var_heap {name : String} {g : Nat} {cs : Array Value} (hg : P.globalNamed name = some g) (h : w.var? P name = some cs) : ∃ t fr, w.heap[g]? = some (.cells cs t fr) := by
  unfold World.var? at h
  rw [hg] at h
  simp only [Option.bind_some] at h
  split at h
  · next c t fr hh => cases h; exact ⟨t, fr, hh⟩
  · cases h
/-- A row of bools per place. -/
theorem bools_row {H : Type} {enc : TypeId × Value → H} {base : Nat} {sp : Nat → Bool} {held : Bool} {fuel : Nat} {e : TypeId} {fs : Array Field} {cs : List Value} {row : List Bool} {p : List MemPlace} (he : P.underlying e = some (.struct fs)) (hc : P.cellsOf e = row.length)
    (hfs : ∀ (r : Nat) (f : Field), fs[r]? = some f → f.offset = r ∧ P.underlying f.type = some .bool ∧ P.cellsOf f.type = 1) (h : DataW.trod enc P w base sp held fuel e cs = some (.agg (row.map fun b => .lit (.bool b)), p)) : cs = row.map Value.bool := by
  cases fuel with
  | zero => simp [DataW.trod] at h
  | succ fuel =>
    simp only [DataW.trod, he] at h
    split at h
    · next hl =>
      obtain ⟨xs, hm, hx⟩ := Option.map_eq_some_iff.1 h
      have hxs : xs.map (·.1) = row.map fun b => (DataW.lit (.bool b) : DataW H) := by
        have := congrArg Prod.fst hx
        simpa using this
      have hxl : xs.length = fs.size := by simpa using Lib.mapM_length hm
      have hrl : row.length = fs.size := by
        have := congrArg List.length hxs
        simp at this
        omega
      apply List.ext_getElem?
      intro i
      by_cases hi : i < fs.size
      · have hf : fs.toList[i]? = some fs[i] := by simp [hi]
        obtain ⟨b, hb, hfb⟩ := Lib.mapM_at hm i _ hf
        obtain ⟨h1, h2, h3⟩ := hfs i fs[i] (Array.getElem?_eq_getElem hi)
        rw [h1, h3] at hfb
        obtain ⟨c, hcs, rfl⟩ := DataW.trod_bool h2 hfb
        have h4 : cs[i]? = some (.bool c) := by
          have := congrArg (·[0]?) hcs
          simpa [List.getElem?_take, List.getElem?_drop] using this
        have h5 : (xs.map (·.1))[i]? = some (DataW.lit (.bool c) : DataW H) := by simp [hb]
        rw [hxs] at h5
        simp only [List.getElem?_map, Option.map_eq_some_iff, DataW.lit.injEq, Lit.bool.injEq] at h5
        obtain ⟨c', hc', rfl⟩ := h5
        simp [h4, hc']
      · rw [List.getElem?_eq_none (by omega), List.getElem?_eq_none (by simp; omega)]
    · cases h
theorem bools_rows {H : Type} {enc : TypeId × Value → H} {base : Nat} {sp : Nat → Bool} {held : Bool} {fuel : Nat} {t e : TypeId} {n m : Nat} {fs : Array Field} {cs : List Value} {rows : List (List Bool)} {p : List MemPlace} (ht : P.underlying t = some (.array n e)) (he : P.underlying e = some (.struct fs))
    (hc : P.cellsOf e = m) (hct : P.cellsOf t = n * m) (hm : ∀ r ∈ rows, r.length = m) (hm0 : 0 < m)
    (hfs : ∀ (r : Nat) (f : Field), fs[r]? = some f → f.offset = r ∧ P.underlying f.type = some .bool ∧ P.cellsOf f.type = 1) (h : DataW.trod enc P w base sp held fuel t cs = some (.agg (rows.map fun row => .agg (row.map fun b => .lit (.bool b))), p)) :
    cs = rows.flatten.map Value.bool := by
  cases fuel with
  | zero => simp [DataW.trod] at h
  | succ fuel =>
    simp only [DataW.trod, ht, hc] at h
    split at h
    · next hl =>
      rw [hct] at hl
      obtain ⟨xs, hmm, hx⟩ := Option.map_eq_some_iff.1 h
      have hxs : xs.map (·.1) = rows.map fun row => (DataW.agg (row.map fun b => .lit (.bool b)) : DataW H) := by
        have := congrArg Prod.fst hx
        simpa using this
      have hxl : xs.length = n := by simpa using Lib.mapM_length hmm
      have hrl : rows.length = n := by
        have := congrArg List.length hxs
        simp at this
        omega
      have hfl : rows.flatten.length = n * m := by
        rw [List.length_flatten]
        have : rows.map List.length = List.replicate n m := by
          rw [← hrl]
          exact List.eq_replicate_iff.2 ⟨by simp, fun b hb => by obtain ⟨r, hr, rfl⟩ := List.mem_map.1 hb; exact hm r hr⟩
        rw [this]; simp
      apply List.ext_getElem?
      intro j
      by_cases hj : j < n * m
      · have hd : j / m < n := (Nat.div_lt_iff_lt_mul hm0).2 hj
        have hr : j % m < m := Nat.mod_lt _ hm0
        have ej : j = j / m * m + j % m := by rw [Nat.mul_comm]; exact (Nat.div_add_mod j m).symm
        obtain ⟨b, hb, hfb⟩ := Lib.mapM_at hmm (j / m) (j / m) (by simp [hd])
        obtain ⟨row, hrow⟩ : ∃ row, rows[j / m]? = some row := ⟨rows[j / m], by simp [hrl, hd]⟩
        have h5 : (xs.map (·.1))[j / m]? = some b.1 := by simp [hb]
        rw [hxs, List.getElem?_map, hrow] at h5
        simp only [Option.map_some, Option.some.injEq] at h5
        obtain ⟨b1, b2⟩ := b
        simp only at h5
        subst h5
        have hlen := hm row (List.mem_of_getElem? hrow)
        have hrr := bools_row (row := row) he (by rw [hc, hlen]) hfs hfb
        have hcs : cs[j]? = ((cs.drop (j / m * m)).take m)[j % m]? := by
          rw [List.getElem?_take_of_lt hr, List.getElem?_drop]
          congr 1
        rw [hcs, hrr]
        have hfg := flatten_get m rows (fun x hx => hm x hx) (j / m) (j % m) hr
        rw [← ej, hrow] at hfg
        rw [List.getElem?_map, List.getElem?_map, hfg]
        rfl
      · rw [List.getElem?_eq_none (by omega), List.getElem?_eq_none (by rw [List.length_map, hfl]; omega)]
    · cases h

/-- Is it a struct of m bools, one behind the other? -/
noncomputable def rowTest (P : Program) (e : TypeId) (m : Nat) : Bool := match P.underlying e with
  | some (.struct fs) => Nat.beq fs.size m && (List.range m).all fun r => match fs[r]? with
    | some f => Nat.beq f.offset r && (match P.underlying f.type with | some .bool => true | _ => false) && Nat.beq (P.cellsOf f.type) 1
    | none => false
  | _ => false
theorem rowTest_spec {e : TypeId} {m : Nat} (h : rowTest P e m = true) : ∃ fs : Array Field, P.underlying e = some (.struct fs) ∧ ∀ (r : Nat) (f : Field), fs[r]? = some f → f.offset = r ∧ P.underlying f.type = some .bool ∧ P.cellsOf f.type = 1 := by
  unfold rowTest at h
  split at h
  · next fs hu =>
    rw [Bool.and_eq_true, nbeq_eq, decide_eq_true_iff, List.all_eq_true] at h
    refine ⟨fs, hu, fun r f hf => ?_⟩
    have hr : r < fs.size := (Array.getElem?_eq_some_iff.1 hf).1
    have := h.2 r (List.mem_range.2 (by omega))
    rw [hf] at this
    simp only [Bool.and_eq_true, nbeq_eq, decide_eq_true_iff] at this
    refine ⟨this.1.1, ?_, this.2⟩
    have h2 := this.1.2
    split at h2
    · assumption
    · cases h2
  · cases h
/-- What two tables' lists say. -/
theorem laid_two {na nb : String} {da db : DataW Unit} (h : laidMet P [(na, da), (nb, db)] w) :
    (∃ g t cs fuel p, P.globalNamed na = some g ∧ (P.globals[g]?).map (·.type) = some t ∧ w.var? P na = some cs ∧ DataW.trod (fun _ => ()) P w 0 (fun _ => true) false fuel t cs.toList = some (da, p)) ∧
    (∃ g t cs fuel p, P.globalNamed nb = some g ∧ (P.globals[g]?).map (·.type) = some t ∧ w.var? P nb = some cs ∧ DataW.trod (fun _ => ()) P w 0 (fun _ => true) false fuel t cs.toList = some (db, p)) := by
  obtain ⟨ps, h, _, _⟩ := h
  obtain ⟨g, t, cs, fuel, p, q, h1, h2, h3, h4, h5, _⟩ := h
  obtain ⟨g', t', cs', fuel', p', q', k1, k2, k3, k4, _⟩ := h5
  exact ⟨⟨g, t, cs, fuel, p, h1, h2, h3, h4⟩, ⟨g', t', cs', fuel', p', k1, k2, k3, k4⟩⟩
theorem ints_heap {name : String} {g : Nat} {t e : TypeId} {n : Nat} {k : IntKind} {zs : List Int} (hg : P.globalNamed name = some g) (hty : (P.globals[g]?).map (·.type) = some t) (ht : P.underlying t = some (.array n e)) (he : P.underlying e = some (.int k)) (hce : P.cellsOf e = 1) (hct : P.cellsOf t = n)
    (h : ∃ g t cs fuel p, P.globalNamed name = some g ∧ (P.globals[g]?).map (·.type) = some t ∧ w.var? P name = some cs ∧ DataW.trod (fun _ => ()) P w 0 (fun _ => true) false fuel t cs.toList = some (Lib.tabData k zs, p)) {l : List AV} (hl : l.map cellOf = zs.map fun z => Value.int k z) :
    ∃ e fr, w.heap[g]? = some (.cells (l.map cellOf).toArray e fr) := by
  obtain ⟨g', t', cs, fuel, p, h1, h2, h3, h4⟩ := h
  obtain rfl := Option.some.inj (hg.symm.trans h1)
  obtain rfl := Option.some.inj (hty.symm.trans h2)
  have := Lib.cells_of_tab ht he hce hct h4
  obtain ⟨t', fr, hh⟩ := var_heap hg h3
  refine ⟨t', fr, ?_⟩
  rw [hh, hl, ← this]
theorem bools_heap {name : String} {g : Nat} {t e : TypeId} {n m : Nat} {rows : List (List Bool)} (hg : P.globalNamed name = some g) (hty : (P.globals[g]?).map (·.type) = some t) (ht : P.underlying t = some (.array n e)) (he : rowTest P e m = true) (hce : P.cellsOf e = m) (hct : P.cellsOf t = n * m)
    (hm : rows.all (fun r => Nat.beq r.length m) = true) (hm0 : 0 < m)
    (h : ∃ g t cs fuel p, P.globalNamed name = some g ∧ (P.globals[g]?).map (·.type) = some t ∧ w.var? P name = some cs ∧ DataW.trod (fun _ => ()) P w 0 (fun _ => true) false fuel t cs.toList = some (.agg (rows.map fun row => .agg (row.map fun b => .lit (.bool b))), p)) {l : List AV} (hl : l.map cellOf = rows.flatten.map Value.bool) :
    ∃ e fr, w.heap[g]? = some (.cells (l.map cellOf).toArray e fr) := by
  obtain ⟨g', t', cs, fuel, p, h1, h2, h3, h4⟩ := h
  obtain rfl := Option.some.inj (hg.symm.trans h1)
  obtain rfl := Option.some.inj (hty.symm.trans h2)
  obtain ⟨fs, hfs1, hfs2⟩ := rowTest_spec he
  have := bools_rows ht hfs1 hce hct (fun r hr => by have := List.all_eq_true.1 hm r hr; rwa [nbeq_eq, decide_eq_true_iff] at this) hm0 hfs2 h4
  obtain ⟨t', fr, hh⟩ := var_heap hg h3
  refine ⟨t', fr, ?_⟩
  rw [hh, hl, ← this]

/-! ### A law without parameters -/
theorem closed_post {H : Type} {enc : TypeId × Value → H} {f : Func} {s : ChangeSpec} {apart fresh handsOn : Bool} {W W' : World} {tb : TypeId} (hp : f.params = #[]) (hv : s.vars = []) (hr : f.resultTypes = #[tb]) (ht : P.underlying tb = some .bool) (hfn : s.fn H [] = { results := [.lit (.bool true)], args := [] })
    (hk : WK W.heap.size W W') : s.post enc P f apart fresh handsOn false W #[] (.bool true) W' := by
  refine ⟨[], [], [], [], [], [], ⟨[], [], ?_, ?_, rfl, ?_, fun _ => List.nodup_nil⟩, ?_, ?_, ?_, ⟨hk.os, hk.output, fun i hi => ?_⟩, fun h => by cases h⟩
  · rw [hp]; rfl
  · rw [hv]; rfl
  · intro b off hb; cases hb
  · rw [hr]
    simp only [List.append_nil, hfn]
    exact ⟨[], [], ⟨1, by simp [DataW.trod, Value.cells, ht]⟩, rfl, rfl⟩
  · rw [hp]; simp only [List.append_nil, hfn]; rfl
  · rw [hv]; simp only [List.append_nil, hfn]; rfl
  · have := hk.keep i hi
    rw [this]
    cases h : W.heap[i]? with
    | none => rfl
    | some o => cases o <;> simp
/-- The contract of a law without parameters. -/
theorem closed_calls {H0 : Hp} {f : FuncId} (h : EntOK P H0 (f, [], .sc (.bool true))) {W : World} (hb : Base H0 W) : Calls P f #[] W fun e W' => e = .returned (.bool true) ∧ WK W.heap.size W W' := by
  have := h W (fun _ => False) [] hb (by rw [TRels]) (fun _ q => q.elim)
  refine this.mono ?_
  rintro e W' ⟨u, rfl, h2, h3⟩
  rw [TRel] at h3
  obtain ⟨_, h4⟩ := h3
  cases h4
  exact ⟨rfl, h2⟩
end

/-! ### The functions of a program -/
theorem build_get {α : Type} : ∀ (d : Nat) (l : List α), (∀ j, j < 2 ^ d → Tr.get (path d j) (Tr.build d l fun t _ => t) = l[j]?) ∧ Tr.build d l (fun _ r => r) = l.drop (2 ^ d) ∧ ∀ {R : Type} (k : Tr α → List α → R), Tr.build d l k = k (Tr.build d l fun t _ => t) (l.drop (2 ^ d))
  | 0, l => by
    cases l with
    | nil => exact ⟨fun j hj => by have : j = 0 := by omega
                                   subst this; rfl, rfl, fun k => rfl⟩
    | cons a l => exact ⟨fun j hj => by have : j = 0 := by omega
                                        subst this; rfl, rfl, fun k => rfl⟩
  | d + 1, l => by
    obtain ⟨h1, h2, h3⟩ := build_get d l
    obtain ⟨k1, k2, k3⟩ := build_get d (l.drop (2 ^ d))
    have e : ∀ {R : Type} (k : Tr α → List α → R), Tr.build (d + 1) l k = k (.n (Tr.build d l fun t _ => t) (Tr.build d (l.drop (2 ^ d)) fun t _ => t)) (l.drop (2 ^ (d + 1))) := by
      intro R k
      show Tr.build d l (fun x l => Tr.build d l fun y l => k (.n x y) l) = _
      rw [h3, k3]
      congr 1
      rw [List.drop_drop]
      congr 1
      omega
    refine ⟨fun j hj => ?_, e _, fun k => by rw [e, e]⟩
    rw [e, path_succ]
    have hb : Nat.beq (Nat.mod (Nat.div j (Nat.pow 2 d)) 2) 1 = decide (j / 2 ^ d % 2 = 1) := nbeq_eq _ _
    have hpath : ∀ j, path d j = path d (j % 2 ^ d) := by
      intro j
      have : ∀ (d e : Nat), d ≤ e → path d j = path d (j % 2 ^ e) := by
        intro d
        induction d with
        | zero => intro e _; rfl
        | succ d ih =>
          intro e he
          rw [path_succ, path_succ, ← ih e (by omega)]
          congr 1
          have h1 : Nat.beq (Nat.mod (Nat.div j (Nat.pow 2 d)) 2) 1 = decide (j / 2 ^ d % 2 = 1) := nbeq_eq _ _
          have h2 : Nat.beq (Nat.mod (Nat.div (j % 2 ^ e) (Nat.pow 2 d)) 2) 1 = decide (j % 2 ^ e / 2 ^ d % 2 = 1) := nbeq_eq _ _
          rw [h1, h2]
          have : j % 2 ^ e / 2 ^ d % 2 = j / 2 ^ d % 2 := by
            have hpe : 2 ^ e = 2 ^ d * 2 ^ (e - d) := by rw [← Nat.pow_add]; congr 1; omega
            rw [hpe, Nat.mod_mul_right_div_self]
            have : 2 ^ (e - d) = 2 * 2 ^ (e - d - 1) := by rw [← Nat.pow_succ']; congr 1; omega
            rw [this, Nat.mod_mul_right_mod]
          rw [this]
      exact this d d (Nat.le_refl _)
    rw [hb]
    by_cases hlt : j < 2 ^ d
    · have : j / 2 ^ d = 0 := Nat.div_eq_of_lt hlt
      rw [this]
      exact h1 j hlt
    · have hq : j / 2 ^ d = 1 := by
        rw [Nat.pow_succ] at hj
        exact Nat.div_eq_of_lt_le (by omega) (by omega)
      rw [hq]
      show Tr.get (path d j) (Tr.build d (l.drop (2 ^ d)) fun t _ => t) = _
      have hm : j % 2 ^ d = j - 2 ^ d := by
        rw [Nat.mod_eq_sub_mod (by omega), Nat.mod_eq_of_lt (by rw [Nat.pow_succ] at hj; omega)]
      rw [hpath, hm, k1 _ (by rw [Nat.pow_succ] at hj; omega), List.getElem?_drop]
      congr 1
      omega
theorem fn_get {K : Kn} {l : List Func} (h : K.fns = Tr.build K.fd l fun t _ => t) (f : FuncId) (fn : Func) (hf : (K.fn f).un = some fn) : l[f]? = some fn := by
  have hf : (bif Nat.blt f (Nat.pow 2 K.fd) then Tr.get (path K.fd f) K.fns else none) = some fn := hf
  cases hb : Nat.blt f (Nat.pow 2 K.fd) with
  | false => rw [hb] at hf; cases hf
  | true =>
    rw [hb, cond_true, h] at hf
    rw [nblt_eq, decide_eq_true_iff] at hb
    rw [← (build_get K.fd l).1 f hb]
    exact hf
/-- A function of which nothing is asked but its code. -/
noncomputable def plainFn (fn : Func) : Bool := (fn.body.isSome || (!(fn.name == "internal/abi.NoEscape") && !(fn.name == "internal/bytealg.IndexByteString"))) && !(fn.name == "runtime.NumGoroutine") && (match fn.body with | some c => okCode fn.ntmps c | none => true)
def ExtFn (fn : Func) : Prop := fn.body = none ∧ ((fn.name = "internal/abi.NoEscape" ∧ Extern.findNext fn = none ∧ Extern.find fn = some Extern.AbiNoEscape.same) ∨ (fn.name = "internal/bytealg.IndexByteString" ∧ Extern.findNext fn = none ∧ Extern.find fn = some Extern.BytealgIndexByte.indexByte))
theorem kok {K : Kn} {l : List Func} (h : K.fns = Tr.build K.fd l fun t _ => t) (hP : K.P.funcs.toList = l) (hm : K.P.follows .mixedOrders = true) (hl : ∀ fn ∈ l, plainFn fn = true ∨ ExtFn fn) : KOK K := by
  have hmem : ∀ f fn, (K.fn f).un = some fn → fn ∈ l := fun f fn hf => List.mem_of_getElem? (fn_get h f fn hf)
  refine ⟨fun f fn hf => ?_, fun f fn hf hb => ?_, fun f fn hf hb => ?_, hm, fun f fn c hf hb => ?_⟩
  · have := fn_get h f fn hf
    rw [← hP] at this
    simpa using this
  · rcases hl fn (hmem f fn hf) with q | ⟨_, ⟨q1, q2, q3⟩ | ⟨q1, q2, q3⟩⟩
    · simp [plainFn, hb] at q
      exact ⟨fun e => absurd e q.1.1, fun e => absurd e q.1.2⟩
    · exact ⟨fun _ => ⟨q2, q3⟩, fun e => absurd (q1.symm.trans e) (by decide)⟩
    · exact ⟨fun e => absurd (q1.symm.trans e) (by decide), fun _ => ⟨q2, q3⟩⟩
  · rcases hl fn (hmem f fn hf) with q | ⟨q, _⟩
    · simp only [plainFn, Bool.and_eq_true, Bool.not_eq_true', beq_eq_false_iff_ne] at q
      exact q.1.2
    · exact absurd q hb
  · rcases hl fn (hmem f fn hf) with q | ⟨q, _⟩
    · simp only [plainFn, Bool.and_eq_true, hb] at q
      exact q.2
    · rw [q] at hb; cases hb
/-- What is known grows. -/
theorem ents_cons {P : Program} {H0 : Hp} {e : FuncId × List TV × TV} {l : List (FuncId × List TV × TV)} (h : EntOK P H0 e) (hl : ∀ x ∈ l, EntOK P H0 x) : ∀ x ∈ e :: l, EntOK P H0 x := by
  intro x hx
  rcases List.mem_cons.1 hx with q | q
  · rw [q]; exact h
  · exact hl x q
end Go.X

/- The interpreter is right, part 34: runs along a path: where an order is drawn from a given number of ways, one way a run; all ways together tell what the call gives. -/
namespace Go.X
open Go

/-- A step of a path: which way is taken, where so many ways are open and the joined call is of this function. -/
abbrev Stp := Nat × Nat × Nat
def botF : FR → List XFrame → Nat
  | fr, [] => fr.fn
  | _, x :: r => botF x.fr r
def hit (l : List (AV × Hp)) (fr : FR) (cs : List XFrame) (n : Nat × Nat) : Bool := Nat.beq l.length n.1 && Nat.beq (botF fr cs) n.2
theorem hit_len {l : List (AV × Hp)} {fr : FR} {cs : List XFrame} {n : Nat × Nat} (h : hit l fr cs n = true) : l.length = n.1 := by
  unfold hit at h
  rw [Bool.and_eq_true, nbeq_eq, decide_eq_true_iff] at h
  exact h.1
/-- How a run ends, and what is left of its path. -/
structure PO where
  o : Out
  p : List Stp
noncomputable def stepP (K : Kn) (X : Nat → SR → E Out) (ih : Nat → List Stp → SR → E PO) (n0 : Nat) (p : List Stp) (s : SR) : E PO := match p with
  | [] => (X n0 s).b fun o => .ok ⟨o, []⟩
  | c :: r => match s with
    | .go H base todo fr cs => ih n0 (c :: r) (stepX K H base todo fr cs)
    | .unw H base fr cs => ih n0 (c :: r) (unwind K H base fr cs)
    | .done v H => .ok ⟨⟨v, H⟩, c :: r⟩
    | .er s => .er s
    | .branch l base todo fr cs => bif hit l fr cs c.2 then
          (match l[c.1]? with
          | some x => ih n0 r (finish x.2 base todo fr cs x.1)
          | none => .er 195)
        else (X n0 (.branch l base todo fr cs)).b fun o => .ok ⟨o, c :: r⟩
    | .jump f args H base todo fr cs => bif K.memo.testBit f then
        (match (mapK (reify (K.frz.testBit f) 100) args H fun l H => .ok (l, H) : E (List TV × Hp)) with
        | .ok (targs, H) => match findE f targs K.M with
          | some res => E.whn (K.frz.testBit f || flatT res) 198 ((plant res H fun v H => .ok (⟨v, H⟩ : Out)).b fun q => ih n0 (c :: r) (finish q.H base todo fr cs q.v))
          | none => .er 1000
        | .er _ => ih n0 (c :: r) (enterF K f args .normal H (⟨base, todo, fr, .run⟩ :: cs)))
      else (ih H.nx (c :: r) (enterF K f args .normal H [])).b fun q => ih n0 q.p (finish q.o.H base todo fr cs q.o.v)
/-- A run along a path: the path's steps are taken at the branches with as many ways as the step says. -/
noncomputable def xrunP (K : Kn) (fuel : Nat) : Nat → List Stp → SR → E PO := Nat.rec (motive := fun _ => Nat → List Stp → SR → E PO) (fun _ _ _ => .er 194) (fun m ih n0 p s => stepP K (xrun K (m + 1)) ih n0 p s) fuel
theorem xrunP_succ (K : Kn) (fuel n0 : Nat) (p : List Stp) (s : SR) : xrunP K (fuel + 1) n0 p s = stepP K (xrun K (fuel + 1)) (xrunP K fuel) n0 p s := rfl

noncomputable def callXP (K : Kn) (H0 : Hp) (fuel : Nat) (f : FuncId) (targs : List TV) (p : List Stp) : E TV := ((plants targs H0 fun args H => .ok (args, H)) : E (List AV × Hp)).b fun q => (xrunP K fuel q.2.nx p (enterF K f q.1 .normal q.2 [])).b fun o => reify false 100 o.o.v o.o.H fun t _ => .ok t
noncomputable def callOKP (K : Kn) (H0 : Hp) (fuel : Nat) (f : FuncId) (targs : List TV) (res : TV) (p : List Stp) : Bool := match callXP K H0 fuel f targs p with
  | .ok v => v.eqb res
  | .er _ => false

/-- The paths. -/
def AP (ns : List (Nat × Nat)) (p : List Stp) : Prop := p.map (·.2) = ns ∧ ∀ c ∈ p, c.1 < c.2.1
theorem AP.cons {n : Nat × Nat} {ns : List (Nat × Nat)} {p : List Stp} (h : AP (n :: ns) p) : ∃ i r, p = (i, n) :: r ∧ i < n.1 ∧ AP ns r := by
  obtain ⟨h1, h2⟩ := h
  cases p with
  | nil => cases h1
  | cons c r =>
    obtain ⟨i, k⟩ := c
    simp only [List.map_cons, List.cons.injEq] at h1
    obtain ⟨rfl, h1⟩ := h1
    exact ⟨i, r, rfl, h2 (i, k) List.mem_cons_self, h1, fun c hc => h2 c (List.mem_cons_of_mem _ hc)⟩
theorem AP.mk {i : Nat} {n : Nat × Nat} {ns : List (Nat × Nat)} {r : List Stp} (hi : i < n.1) (h : AP ns r) : AP (n :: ns) ((i, n) :: r) :=
  ⟨by simp [h.1], fun c hc => by
    rcases List.mem_cons.1 hc with rfl | hc
    · exact hi
    · exact h.2 c hc⟩
theorem AP.ex : ∀ (ns : List (Nat × Nat)), (∀ n ∈ ns, 0 < n.1) → ∃ p, AP ns p
  | [], _ => ⟨[], rfl, fun _ h => nomatch h⟩
  | n :: ns, h => by
    obtain ⟨p, hp⟩ := AP.ex ns fun m hm => h m (List.mem_cons_of_mem _ hm)
    exact ⟨_, AP.mk (h n List.mem_cons_self) hp⟩
theorem AP.back {ns : List (Nat × Nat)} {q rest rest' : List Stp} (h : AP ns (q ++ rest)) (h' : AP (rest.map (·.2)) rest') : AP ns (q ++ rest') :=
  ⟨by rw [← h.1, List.map_append, List.map_append, h'.1], fun c hc => by
    rcases List.mem_append.1 hc with hc | hc
    · exact h.2 c (List.mem_append.2 (.inl hc))
    · exact h'.2 c hc⟩
theorem AP.rest {ns : List (Nat × Nat)} {q rest : List Stp} (h : AP ns (q ++ rest)) : AP (rest.map (·.2)) rest := ⟨rfl, fun c hc => h.2 c (List.mem_append.2 (.inr hc))⟩

/-- What is left of a path has not been looked at, but for the numbers of ways. -/
theorem xrunP_ind {K : Kn} : ∀ (fuel n0 : Nat) (p : List Stp) (s : SR) (o : Out) (rest : List Stp), xrunP K fuel n0 p s = .ok ⟨o, rest⟩ →
    ∃ q, p = q ++ rest ∧ ∀ rest' : List Stp, rest'.map (·.2) = rest.map (·.2) → xrunP K fuel n0 (q ++ rest') s = .ok ⟨o, rest'⟩ := by
  intro fuel
  induction fuel with
  | zero => intro n0 p s o rest h; exact nomatch h
  | succ fuel ih =>
    intro n0 p s o rest h
    rw [xrunP_succ] at h
    cases p with
    | nil =>
      obtain ⟨o1, h1, h2⟩ := E.b_inv (show (xrun K (fuel + 1) n0 s).b _ = .ok _ from h)
      cases h2
      refine ⟨[], rfl, fun rest' hr => ?_⟩
      cases rest' with
      | nil => exact h
      | cons _ _ => cases hr
    | cons c r =>
      -- a path as long
      have same : ∀ {q rest' : List Stp}, c :: r = q ++ rest → rest'.map (·.2) = rest.map (·.2) → ∃ c' r', q ++ rest' = c' :: r' ∧ c'.2 = c.2 := by
        intro q rest' h1 h2
        have h3 : (q ++ rest').map (·.2) = (c :: r).map (·.2) := by rw [h1, List.map_append, List.map_append, h2]
        cases hq : q ++ rest' with
        | nil => rw [hq] at h3; cases h3
        | cons c' r' =>
          rw [hq] at h3
          simp only [List.map_cons, List.cons.injEq] at h3
          exact ⟨c', r', rfl, h3.1⟩
      -- a step that does not look at the path
      have plain : ∀ {n1 : Nat} {s1 : SR}, xrunP K fuel n1 (c :: r) s1 = .ok ⟨o, rest⟩ → (∀ c' r', xrunP K (fuel + 1) n0 (c' :: r') s = xrunP K fuel n1 (c' :: r') s1) →
          ∃ q, c :: r = q ++ rest ∧ ∀ rest' : List Stp, rest'.map (·.2) = rest.map (·.2) → xrunP K (fuel + 1) n0 (q ++ rest') s = .ok ⟨o, rest'⟩ := by
        intro n1 s1 h1 h2
        obtain ⟨q, q1, q2⟩ := ih _ _ _ _ _ h1
        refine ⟨q, q1, fun rest' hr => ?_⟩
        obtain ⟨c', r', e, _⟩ := same q1 hr
        have := q2 rest' hr
        rw [e] at this ⊢
        rw [h2]; exact this
      cases s with
      | er s => exact nomatch h
      | done v H =>
        cases h
        refine ⟨[], rfl, fun rest' hr => ?_⟩
        cases rest' with
        | nil => cases hr
        | cons c' r' => rfl
      | go H base todo fr cs => exact plain h fun _ _ => rfl
      | unw H base fr cs => exact plain h fun _ _ => rfl
      | branch l base todo fr cs =>
        replace h : (bif hit l fr cs c.2 then
          (match l[c.1]? with
          | some x => xrunP K fuel n0 r (finish x.2 base todo fr cs x.1)
          | none => .er 195)
          else (xrun K (fuel + 1) n0 (.branch l base todo fr cs)).b fun o => .ok ⟨o, c :: r⟩ : E PO) = .ok ⟨o, rest⟩ := h
        cases hl : hit l fr cs c.2 with
        | true =>
          rw [hl, cond_true] at h
          cases hx : l[c.1]? with
          | none => rw [hx] at h; exact nomatch h
          | some x =>
            rw [hx] at h
            obtain ⟨q, q1, q2⟩ := ih _ _ _ _ _ h
            refine ⟨c :: q, by rw [q1]; rfl, fun rest' hr => ?_⟩
            show (bif hit l fr cs c.2 then
              (match l[c.1]? with
              | some x => xrunP K fuel n0 (q ++ rest') (finish x.2 base todo fr cs x.1)
              | none => .er 195)
              else (xrun K (fuel + 1) n0 (.branch l base todo fr cs)).b fun o => .ok ⟨o, c :: (q ++ rest')⟩ : E PO) = .ok ⟨o, rest'⟩
            rw [hl, cond_true, hx]
            exact q2 rest' hr
        | false =>
          rw [hl, cond_false] at h
          obtain ⟨o1, h1, h2⟩ := E.b_inv h
          cases h2
          refine ⟨[], rfl, fun rest' hr => ?_⟩
          cases rest' with
          | nil => cases hr
          | cons c' r' =>
            simp only [List.map_cons, List.cons.injEq] at hr
            show (bif hit l fr cs c'.2 then
              (match l[c'.1]? with
              | some x => xrunP K fuel n0 r' (finish x.2 base todo fr cs x.1)
              | none => .er 195)
              else (xrun K (fuel + 1) n0 (.branch l base todo fr cs)).b fun o => .ok ⟨o, c' :: r'⟩ : E PO) = .ok ⟨o, c' :: r'⟩
            rw [hr.1, hl, cond_false, h1]
            rfl
      | jump f args H base todo fr cs =>
        have unf : ∀ c r, xrunP K (fuel + 1) n0 (c :: r) (.jump f args H base todo fr cs) = (bif K.memo.testBit f then
            (match (mapK (reify (K.frz.testBit f) 100) args H fun l H => .ok (l, H) : E (List TV × Hp)) with
            | .ok (targs, H) => match findE f targs K.M with
              | some res => E.whn (K.frz.testBit f || flatT res) 198 ((plant res H fun v H => .ok (⟨v, H⟩ : Out)).b fun q => xrunP K fuel n0 (c :: r) (finish q.H base todo fr cs q.v))
              | none => .er 1000
            | .er _ => xrunP K fuel n0 (c :: r) (enterF K f args .normal H (⟨base, todo, fr, .run⟩ :: cs)))
          else (xrunP K fuel H.nx (c :: r) (enterF K f args .normal H [])).b fun q => xrunP K fuel n0 q.p (finish q.o.H base todo fr cs q.o.v) : E PO) := fun _ _ => rfl
        have h := (unf c r).symm.trans h
        cases hmm : K.memo.testBit f with
        | true =>
          rw [hmm, cond_true] at h
          cases hre : (mapK (reify (K.frz.testBit f) 100) args H fun l H => .ok (l, H) : E (List TV × Hp)) with
          | er s1 =>
            rw [hre] at h
            exact plain h fun c' r' => by rw [unf, hmm, cond_true, hre]
          | ok tq =>
            obtain ⟨targs, H1⟩ := tq
            rw [hre] at h
            replace h : (match findE f targs K.M with
              | some res => E.whn (K.frz.testBit f || flatT res) 198 ((plant res H1 fun v H => .ok (⟨v, H⟩ : Out)).b fun q => xrunP K fuel n0 (c :: r) (finish q.H base todo fr cs q.v))
              | none => .er 1000 : E PO) = .ok ⟨o, rest⟩ := h
            cases hfe : findE f targs K.M with
            | none => rw [hfe] at h; exact nomatch h
            | some res =>
              rw [hfe] at h
              obtain ⟨hfl, hpl⟩ := E.whn_inv h
              obtain ⟨q, q1, q2⟩ := E.b_inv hpl
              refine plain q2 fun c' r' => ?_
              rw [unf, hmm, cond_true, hre]
              show (match findE f targs K.M with
                | some res => E.whn (K.frz.testBit f || flatT res) 198 ((plant res H1 fun v H => .ok (⟨v, H⟩ : Out)).b fun q => xrunP K fuel n0 (c' :: r') (finish q.H base todo fr cs q.v))
                | none => .er 1000 : E PO) = _
              rw [hfe]
              show E.whn (K.frz.testBit f || flatT res) 198 ((plant res H1 fun v H => .ok (⟨v, H⟩ : Out)).b fun q => xrunP K fuel n0 (c' :: r') (finish q.H base todo fr cs q.v)) = _
              rw [hfl, q1]
              rfl
        | false =>
          rw [hmm, cond_false] at h
          obtain ⟨q, q1, q2⟩ := E.b_inv h
          obtain ⟨o1, p1⟩ := q
          obtain ⟨a, a1, a2⟩ := ih _ _ _ _ _ q1
          obtain ⟨b, b1, b2⟩ := ih _ _ _ _ _ q2
          have b1 : p1 = b ++ rest := b1
          subst b1
          refine ⟨a ++ b, by rw [a1, List.append_assoc], fun rest' hr => ?_⟩
          have e1 := a2 (b ++ rest') (by rw [List.map_append, List.map_append, hr])
          obtain ⟨c', r', e, _⟩ := same (q := a ++ b) (rest' := rest') (by rw [a1, List.append_assoc]) hr
          rw [e, unf, hmm, cond_false]
          rw [← List.append_assoc, e] at e1
          rw [e1]
          exact b2 rest' hr
section
variable {C : Cx} {B : Nat} {G : Gh} {H : Hp} {w : World} {f0 : FuncId} {cs0 : List Frame} {n0 : Nat} {m : Machine}

/-- A call that is looked up. -/
theorem memo_sim {Z : Type} {H0 H1 : Hp} {k : AV → Hp → E Z} {r : Z} {f : FuncId} {args : List AV} {targs : List TV} {res : TV} {base : Tr AV} {todo : List XItem} {fr : FR} {cs : List XFrame}
    (hB : 2 ≤ B) (hM : ∀ e ∈ C.K.M, EntOK C.K.P H0 e) (hbase : Base H0 w) (hreach : Reach C B f0 cs0 n0 G w m (.jump f args H base todo fr cs))
    (hre : (mapK (reify (C.K.frz.testBit f) 100) args H fun l H => .ok (l, H) : E (List TV × Hp)) = .ok (targs, H1)) (hfe : findE f targs C.K.M = some res)
    (hfl : (C.K.frz.testBit f || flatT res) = true) (hpl : plant res H1 k = .ok r) :
    ∃ G3 H3 a w3 m3, k a H3 = .ok r ∧ Steps C.K.P m m3 ∧ Gh.agr n0 G G3 ∧ WK B w w3 ∧ Reach C B f0 cs0 n0 G3 w3 m3 (finish H3 base todo fr cs a) := by
  obtain ⟨G', m', h1, h2, h3, fx, fs, w1, lo, us, rfl, h5, h6, h7, h8, h9, h10, h11, h12⟩ := hreach
  have hb1 := hbase.keep hB h3
  obtain ⟨t, H2, r1, r2, r3, r4, r5⟩ := mapK_sound (C := C) (B := B) (G := G') (w := w1) (fun v u {H} {k} {r} => reify_sound 100 v u) args us hre h8 h5
  cases r1
  have hent := hM _ (findE_inv hfe)
  have hsz : ∀ b, Seen (C.K.frz.testBit f) G' H1 b → b < w1.heap.size := by
    rintro b ⟨j, p, y, _, _, q3, q4, _⟩
    rw [← q4]; exact r2.lt j y q3
  obtain ⟨en, w2, fr2, ⟨u, rfl, e2, e3⟩, e4, e5, e6⟩ := hent w1 (Seen (C.K.frz.testBit f) G' H1) us hb1 r4 hsz (fx :: fs)
  have hstep := step_leave_returned (c := fx) (cs := fs) e6
  have hr2 := r2.later e2
  have hwk2 : WK B w1 w2 := e2.le h5.bs
  have hfix : ∀ (fzz : C.K.frz.testBit f = true), Shr C B (fun b => Seen (C.K.frz.testBit f) G' H1 b ∨ b < 2 ∨ w1.heap.size ≤ b) G' H1 := by
    intro fzz b hb
    rcases hb with ⟨j, p, y, q1, q2, q3, q4, q5⟩ | hb | hb
    · refine ⟨by rw [← q4]; exact r2.src j y q3, fun j' p' y' a1 a2 a3 a4 => ?_⟩
      by_cases e : j = j'
      · subst e; rw [q2] at a2; cases a2; exact q5 fzz
      · exact (r2.inj j j' p p' y y' q1 a1 q2 a2 q3 a3 (q4.trans a4.symm) e).2
    · obtain ⟨x, q1, q2, q3⟩ := r2.gl b hb
      refine ⟨by rw [← q2]; exact r2.src b x q1, fun j' p' y' a1 a2 a3 a4 => ?_⟩
      cases hf : p'.fixed with
      | true => rfl
      | false => have := r2.own j' p' y' a1 a2 a3 hf; omega
    · refine ⟨.inl (Nat.le_trans h5.bs hb), fun j' p' y' a1 a2 a3 a4 => ?_⟩
      have := r2.lt j' y' a3
      omega
  have hplant : ∃ G3 H3 a, k a H3 = .ok r ∧ HR C B G3 H3 w2 ∧ Gh.ext H1.nx G' G3 ∧ H1.nx ≤ H3.nx ∧ VRel G3 a u := by
    cases hfz : C.K.frz.testBit f with
    | true =>
      obtain ⟨G3, H3, a, p1, p2, _, p4, p5, p6⟩ := plant_sound res u hpl e3 hr2 (hfix hfz)
      exact ⟨G3, H3, a, p1, p2, p4, p5, p6⟩
    | false =>
      rw [hfz, Bool.false_or] at hfl
      obtain ⟨G3, H3, a, p1, p2, _, p4, p5, p6⟩ := plant_sound (Bs := fun _ => False) res u hpl (TRel.flat res u hfl e3) hr2 (fun b hb => hb.elim)
      exact ⟨G3, H3, a, p1, p2, p4, p5, p6⟩
  obtain ⟨G3, H3, a, p1, p2, p4, p5, p6⟩ := hplant
  have hnx1 := r3.1
  rw [hnx1] at p4 p5
  have hgood := finish_sim p2 h6 h7 p5 (h9.mono p4) h10 (h11.mono (Gh.ext_le p4 h7)) h12 p6
  exact ⟨G3, H3, a, w2, _, p1, h1.trans (Steps.trans e4 (.one hstep)), Gh.agr_trans h2.agr (Gh.ext_le p4 (Nat.le_trans h6 h7)).agr, h3.trans hwk2, .of ⟨G3, _, .refl _ _, Gh.ext_refl _ _, WK.refl _ _, hgood⟩⟩

/-- A call that is walked on. -/
theorem push_sim {f : FuncId} {args : List AV} {base : Tr AV} {todo : List XItem} {fr : FR} {cs : List XFrame} (hK : KOK C.K) (hreach : Reach C B f0 cs0 n0 G w m (.jump f args H base todo fr cs)) :
    ∃ G3 w3 m3, Steps C.K.P m m3 ∧ Gh.agr n0 G G3 ∧ WK B w w3 ∧ Reach C B f0 cs0 n0 G3 w3 m3 (enterF C.K f args .normal H (⟨base, todo, fr, .run⟩ :: cs)) := by
  obtain ⟨G', m', h1, h2, h3, fx, fs, w1, lo, us, rfl, h5, h6, h7, h8, h9, h10, h11, h12⟩ := hreach
  have hgood : Good0 C B f0 cs0 n0 G' (lone (Frame.enter C.K.P f us.toArray .normal) (fx :: fs) w1) (enterF C.K f args .normal H (⟨base, todo, fr, .run⟩ :: cs)) := enterF_sim hK h5 (Nat.le_trans h6 h7) h8 (.inl rfl) (.run (x := ⟨base, todo, fr, .run⟩) h6 h7 rfl h10 h9 h11) (fun _ _ => h12)
  exact ⟨G', w1, _, h1, h2.agr, h3, .of ⟨G', _, .refl _ _, Gh.ext_refl _ _, WK.refl _ _, hgood⟩⟩

/-- A call that is joined. -/
theorem call_sim {f : FuncId} {args : List AV} {base : Tr AV} {todo : List XItem} {fr : FR} {cs : List XFrame} (hK : KOK C.K) (hreach : Reach C B f0 cs0 n0 G w m (.jump f args H base todo fr cs)) :
    ∃ G1 w1 m1 fcs, WK B w w1 ∧ n0 ≤ H.nx ∧ Reach C B f fcs H.nx G1 w1 m1 (enterF C.K f args .normal H []) ∧
      ∀ o1, Fin' C B f fcs H.nx G1 w1 m1 o1 → ∃ G3 w3 m3, Steps C.K.P m m3 ∧ Gh.agr n0 G G3 ∧ WK B w w3 ∧ Reach C B f0 cs0 n0 G3 w3 m3 (finish o1.H base todo fr cs o1.v) := by
  obtain ⟨G', m', h1, h2, h3, fx, fs, w1, lo, us, rfl, h5, h6, h7, h8, h9, h10, h11, h12⟩ := hreach
  have hgood : Good0 C B f (fx :: fs) H.nx G' (lone (Frame.enter C.K.P f us.toArray .normal) (fx :: fs) w1) (enterF C.K f args .normal H []) := enterF_sim hK h5 (Nat.le_refl _) h8 (.inl rfl) .nil (fun _ _ => ⟨rfl, rfl, rfl⟩)
  refine ⟨G', w1, _, fx :: fs, h3, Nat.le_trans h6 h7, .of ⟨G', _, .refl _ _, Gh.ext_refl _ _, WK.refl _ _, hgood⟩, fun o1 hfin => ?_⟩
  obtain ⟨G3, f3, w3, u, k1, k2, k3, k4, k5, k6, k7, k8⟩ := hfin
  have hstep := step_leave_returned (c := fx) (cs := fs) k8
  have hext : Gh.ext H.nx G' G3 := by
    refine ⟨fun id x hx => ?_, fun id hid hn => by rw [k2 id hid]; exact hn⟩
    rw [k2 id (h5.id_lt hx)]; exact hx
  have hgood2 := finish_sim k4 h6 h7 k6 (h9.mono hext) h10 (h11.mono (Gh.ext_le hext h7)) h12 k5
  exact ⟨G3, w3, _, h1.trans (k1.trans (.one hstep)), Gh.agr_trans h2.agr (Gh.ext_le hext (Nat.le_trans h6 h7)).agr, h3.trans k3, .of ⟨G3, _, .refl _ _, Gh.ext_refl _ _, WK.refl _ _, hgood2⟩⟩

theorem xrunP_sound {H0 : Hp} (hK : KOK C.K) (hB : 2 ≤ B) (hM : ∀ e ∈ C.K.M, EntOK C.K.P H0 e) : ∀ (fuel : Nat) (ns : List (Nat × Nat)) (f0 : FuncId) (cs0 : List Frame) (n0 : Nat) (s : SR) (G : Gh) (w : World) (m : Machine), 2 ≤ n0 → (∀ n ∈ ns, 0 < n.1) →
    (∀ p, AP ns p → ∃ r, xrunP C.K fuel n0 p s = .ok r) → Base H0 w → Reach C B f0 cs0 n0 G w m s → ∃ p o rest, AP ns p ∧ xrunP C.K fuel n0 p s = .ok ⟨o, rest⟩ ∧ Fin' C B f0 cs0 n0 G w m o := by
  intro fuel
  induction fuel with
  | zero =>
    intro ns f0 cs0 n0 s G w m _ hpos h
    obtain ⟨p, hp⟩ := AP.ex ns hpos
    obtain ⟨r, hr⟩ := h p hp
    exact nomatch hr
  | succ fuel ih =>
    intro ns f0 cs0 n0 s G w m hn2 hpos h hbase hreach
    obtain ⟨p0, hp0⟩ := AP.ex ns hpos
    obtain ⟨r0, hr0⟩ := h p0 hp0
    cases ns with
    | nil =>
      obtain rfl : p0 = [] := by have := hp0.1; simpa using this
      have hr1 := hr0
      rw [xrunP_succ] at hr1
      obtain ⟨o1, h1, h2⟩ := E.b_inv (show (xrun C.K (fuel + 1) n0 s).b _ = .ok _ from hr1)
      cases h2
      exact ⟨[], o1, [], hp0, hr0, xrun_sound hK hB hM (fuel + 1) f0 cs0 n0 s o1 G w m hn2 h1 hbase hreach⟩
    | cons n ns =>
      have hpos' : ∀ n ∈ ns, 0 < n.1 := fun a ha => hpos a (List.mem_cons_of_mem _ ha)
      -- a step that does not look at the path
      have plain : ∀ {s1 : SR} {G1 : Gh} {w1 : World} {m1 : Machine}, (∀ c r, xrunP C.K (fuel + 1) n0 (c :: r) s = xrunP C.K fuel n0 (c :: r) s1) → Steps C.K.P m m1 → Gh.agr n0 G G1 → WK B w w1 → Reach C B f0 cs0 n0 G1 w1 m1 s1 →
          ∃ p o rest, AP (n :: ns) p ∧ xrunP C.K (fuel + 1) n0 p s = .ok ⟨o, rest⟩ ∧ Fin' C B f0 cs0 n0 G w m o := by
        intro s1 G1 w1 m1 e hs hg hw hr
        obtain ⟨p, o, rest, q1, q2, q3⟩ := ih (n :: ns) f0 cs0 n0 s1 G1 w1 m1 hn2 hpos (fun p hp => by
          obtain ⟨r, hr⟩ := h p hp
          obtain ⟨i, p', rfl, _, _⟩ := hp.cons
          rw [e] at hr
          exact ⟨r, hr⟩) (hbase.keep hB hw) hr
        refine ⟨p, o, rest, q1, ?_, q3.pre hs hg hw⟩
        obtain ⟨i, p', rfl, _, _⟩ := q1.cons
        rw [e]; exact q2
      obtain ⟨i0, r1, rfl, hi0, hr1⟩ := hp0.cons
      cases s with
      | er s => exact nomatch hr0
      | done v H =>
        obtain ⟨G', m', h1, h2, h3, f, w1, u, rfl, h5, h6, h7, h8, h9⟩ := hreach
        exact ⟨_, ⟨v, H⟩, _, hp0, rfl, G', f, w1, u, h1, h2.agr, h3, h5, h7, h6, h8, h9⟩
      | go H base todo fr cs =>
        obtain ⟨G', m', h1, h2, h3, f, fs, w1, lo, rfl, h5, h6, h7, h8, h9, h10, h11⟩ := hreach
        exact plain (fun _ _ => rfl) h1 h2.agr h3 (step_sim hK h5 h6 h7 h8 h9 h10 h11)
      | unw H base fr cs =>
        obtain ⟨G', m', h1, h2, h3, f, fs, w1, lo, rfl, h5, h6, h7, h8, h9, h10, h11, h12⟩ := hreach
        exact plain (fun _ _ => rfl) h1 h2.agr h3 (unwind_sim hK h5 h6 h7 h8 h9 h10 h11 h12)
      | branch l base todo fr cs =>
        have unf : ∀ c r, xrunP C.K (fuel + 1) n0 (c :: r) (.branch l base todo fr cs) = (bif hit l fr cs c.2 then
            (match l[c.1]? with
            | some x => xrunP C.K fuel n0 r (finish x.2 base todo fr cs x.1)
            | none => .er 195)
            else (xrun C.K (fuel + 1) n0 (.branch l base todo fr cs)).b fun o => .ok ⟨o, c :: r⟩ : E PO) := fun _ _ => rfl
        cases hl : hit l fr cs n with
        | false =>
          have hr2 := hr0
          rw [unf, hl, cond_false] at hr2
          obtain ⟨o1, h1, h2⟩ := E.b_inv hr2
          cases h2
          exact ⟨_, o1, _, hp0, hr0, xrun_sound hK hB hM (fuel + 1) f0 cs0 n0 _ o1 G w m hn2 h1 hbase hreach⟩
        | true =>
          have hlen := hit_len hl
          obtain ⟨x, hx, hrx⟩ := hreach
          obtain ⟨i, hi, hxi⟩ := List.getElem_of_mem hx
          have hxi' : l[i]? = some x := by rw [List.getElem?_eq_getElem hi, hxi]
          have e : ∀ r, xrunP C.K (fuel + 1) n0 ((i, n) :: r) (.branch l base todo fr cs) = xrunP C.K fuel n0 r (finish x.2 base todo fr cs x.1) := by
            intro r
            rw [unf]
            show (bif hit l fr cs n then _ else _) = _
            rw [hl, cond_true]
            show (match l[i]? with
            | some x => xrunP C.K fuel n0 r (finish x.2 base todo fr cs x.1)
            | none => .er 195 : E PO) = _
            rw [hxi']
          obtain ⟨p, o, rest, q1, q2, q3⟩ := ih ns f0 cs0 n0 _ G w m hn2 hpos' (fun p hp => by
            obtain ⟨r, hr⟩ := h _ (AP.mk (by omega : i < n.1) hp)
            rw [e] at hr
            exact ⟨r, hr⟩) hbase (.of hrx)
          exact ⟨(i, n) :: p, o, rest, AP.mk (by omega) q1, by rw [e]; exact q2, q3⟩
      | jump f args H base todo fr cs =>
        have unf : ∀ c r, xrunP C.K (fuel + 1) n0 (c :: r) (.jump f args H base todo fr cs) = (bif C.K.memo.testBit f then
            (match (mapK (reify (C.K.frz.testBit f) 100) args H fun l H => .ok (l, H) : E (List TV × Hp)) with
            | .ok (targs, H) => match findE f targs C.K.M with
              | some res => E.whn (C.K.frz.testBit f || flatT res) 198 ((plant res H fun v H => .ok (⟨v, H⟩ : Out)).b fun q => xrunP C.K fuel n0 (c :: r) (finish q.H base todo fr cs q.v))
              | none => .er 1000
            | .er _ => xrunP C.K fuel n0 (c :: r) (enterF C.K f args .normal H (⟨base, todo, fr, .run⟩ :: cs)))
          else (xrunP C.K fuel H.nx (c :: r) (enterF C.K f args .normal H [])).b fun q => xrunP C.K fuel n0 q.p (finish q.o.H base todo fr cs q.o.v) : E PO) := fun _ _ => rfl
        cases hmm : C.K.memo.testBit f with
        | true =>
          have hr2 := hr0
          rw [unf, hmm, cond_true] at hr2
          cases hre : (mapK (reify (C.K.frz.testBit f) 100) args H fun l H => .ok (l, H) : E (List TV × Hp)) with
          | er s1 =>
            obtain ⟨G3, w3, m3, a1, a2, a3, a4⟩ := push_sim hK hreach
            exact plain (fun c r => by rw [unf, hmm, cond_true, hre]) a1 a2 a3 a4
          | ok tq =>
            obtain ⟨targs, H1⟩ := tq
            rw [hre] at hr2
            replace hr2 : (match findE f targs C.K.M with
              | some res => E.whn (C.K.frz.testBit f || flatT res) 198 ((plant res H1 fun v H => .ok (⟨v, H⟩ : Out)).b fun q => xrunP C.K fuel n0 ((i0, n) :: r1) (finish q.H base todo fr cs q.v))
              | none => .er 1000 : E PO) = .ok r0 := hr2
            cases hfe : findE f targs C.K.M with
            | none => rw [hfe] at hr2; exact nomatch hr2
            | some res =>
              rw [hfe] at hr2
              obtain ⟨hfl, hpl⟩ := E.whn_inv hr2
              obtain ⟨q, q1, q2⟩ := E.b_inv hpl
              obtain ⟨G3, H3, a, w3, m3, b1, b2, b3, b4, b5⟩ := memo_sim hB hM hbase hreach hre hfe hfl q1
              cases b1
              refine plain (fun c r => ?_) b2 b3 b4 b5
              rw [unf, hmm, cond_true, hre]
              show (match findE f targs C.K.M with
                | some res => E.whn (C.K.frz.testBit f || flatT res) 198 ((plant res H1 fun v H => .ok (⟨v, H⟩ : Out)).b fun q => xrunP C.K fuel n0 (c :: r) (finish q.H base todo fr cs q.v))
                | none => .er 1000 : E PO) = _
              rw [hfe]
              show E.whn (C.K.frz.testBit f || flatT res) 198 ((plant res H1 fun v H => .ok (⟨v, H⟩ : Out)).b fun q => xrunP C.K fuel n0 (c :: r) (finish q.H base todo fr cs q.v)) = _
              rw [hfl, q1]
              rfl
        | false =>
          have unf2 : ∀ c r, xrunP C.K (fuel + 1) n0 (c :: r) (.jump f args H base todo fr cs) = ((xrunP C.K fuel H.nx (c :: r) (enterF C.K f args .normal H [])).b fun q => xrunP C.K fuel n0 q.p (finish q.o.H base todo fr cs q.o.v)) := by
            intro c r; rw [unf, hmm, cond_false]
          obtain ⟨G1, w1, m1, fcs, a1, a2, a3, a4⟩ := call_sim hK hreach
          obtain ⟨p, o1, rest, q1, q2, q3⟩ := ih (n :: ns) f fcs H.nx _ G1 w1 m1 (by omega) hpos (fun p hp => by
            obtain ⟨r, hr⟩ := h p hp
            obtain ⟨i, p', rfl, _, _⟩ := hp.cons
            rw [unf2] at hr
            obtain ⟨q, q1, _⟩ := E.b_inv hr
            exact ⟨q, q1⟩) (hbase.keep hB a1) a3
          obtain ⟨a, ha, hind⟩ := xrunP_ind _ _ _ _ _ _ q2
          subst ha
          obtain ⟨G3, w3, m3, b1, b2, b3, b4⟩ := a4 o1 q3
          have hposr : ∀ n ∈ rest.map (·.2), 0 < n.1 := by
            intro k hk
            obtain ⟨c, hc, rfl⟩ := List.mem_map.1 hk
            have := q1.2 c (List.mem_append.2 (.inr hc))
            omega
          have hall : ∀ r', AP (rest.map (·.2)) r' → ∃ r, xrunP C.K (fuel + 1) n0 (a ++ r') (.jump f args H base todo fr cs) = .ok r ∧ xrunP C.K fuel n0 r' (finish o1.H base todo fr cs o1.v) = .ok r := by
            intro r' hr'
            have hap := q1.back hr'
            obtain ⟨r, hr⟩ := h _ hap
            obtain ⟨i, p', he, _, _⟩ := hap.cons
            have hk := hind r' hr'.1
            rw [he] at hr hk ⊢
            refine ⟨r, hr, ?_⟩
            rw [unf2, hk] at hr
            exact hr
          obtain ⟨p', o, rest', c1, c2, c3⟩ := ih (rest.map (·.2)) f0 cs0 n0 _ G3 w3 m3 hn2 hposr (fun r' hr' => by
            obtain ⟨r, _, hr⟩ := hall r' hr'
            exact ⟨r, hr⟩) (hbase.keep hB b3) b4
          obtain ⟨r, d1, d2⟩ := hall p' c1
          rw [c2] at d2
          cases d2
          exact ⟨a ++ p', o, rest', q1.back c1, d1, c3.pre b1 b2 b3⟩

/-- An entry that the kernel has run along all paths is so. -/
theorem entryP_ok {K : Kn} {H0 : Hp} (hK : KOK K) (hM : ∀ e ∈ K.M, EntOK K.P H0 e) {fuel : Nat} {f : FuncId} {targs : List TV} {res : TV} (ns : List (Nat × Nat)) (hpos : ∀ n ∈ ns, 0 < n.1) (h : ∀ p, AP ns p → callOKP K H0 fuel f targs res p = true) : EntOK K.P H0 (f, targs, res) := by
  intro w Bs us hbase hargs hlt cs
  have h2 : 2 ≤ w.heap.size := hbase.1
  obtain ⟨p0, hp0⟩ := AP.ex ns hpos
  have hall : ∀ p, AP ns p → ∃ q o, (plants targs H0 (fun args H => .ok (args, H)) : E (List AV × Hp)) = .ok q ∧ xrunP K fuel q.2.nx p (enterF K f q.1 .normal q.2 []) = .ok o ∧ (reify false 100 o.o.v o.o.H fun t _ => .ok t : E TV) = .ok res := by
    intro p hp
    have h := h p hp
    unfold callOKP at h
    split at h
    · next v hv =>
      have hvr := TV.eqb_eq _ _ h
      subst hvr
      obtain ⟨q, q1, q2⟩ := E.b_inv hv
      obtain ⟨o, o1, o2⟩ := E.b_inv q2
      exact ⟨q, o, q1, o1, o2⟩
    · cases h
  obtain ⟨q, _, hq, _, _⟩ := hall p0 hp0
  obtain ⟨as, H1⟩ := q
  obtain ⟨G0, hr0, hfx⟩ := hbase.hr ⟨K, fun b => Bs b ∨ b < 2⟩ (fun b hb => .inr hb) (Nat.le_refl w.heap.size)
  have hshr : Shr ⟨K, fun b => Bs b ∨ b < 2⟩ w.heap.size Bs G0 H0 := fun b hb => ⟨.inr (.inl hb), fun j p y a1 a2 a3 a4 => (hfx j y a3).2 p a2⟩
  obtain ⟨G1, H1', as', g1, g2, g3, g4, g5, g6⟩ := plants_sound targs us hq hargs hr0 hshr
  cases g1
  have hgood : Good0 ⟨K, fun b => Bs b ∨ b < 2⟩ w.heap.size f cs H1.nx G1 (lone (Frame.enter K.P f us.toArray .normal) cs w) (enterF K f as .normal H1 []) := enterF_sim (C := ⟨K, fun b => Bs b ∨ b < 2⟩) hK g2 (Nat.le_refl _) g6 (.inl rfl) .nil (fun _ _ => ⟨rfl, rfl, rfl⟩)
  have hnx : 2 ≤ H1.nx := by
    have := hbase.2.2
    obtain ⟨_, _, _, h5, _⟩ := this
    omega
  obtain ⟨p, o, rest, c1, c2, c3⟩ := xrunP_sound (C := ⟨K, fun b => Bs b ∨ b < 2⟩) hK h2 hM fuel ns f cs H1.nx _ G1 w _ hnx hpos (fun p hp => by
    obtain ⟨q, o, e1, e2, _⟩ := hall p hp
    rw [hq] at e1
    cases e1
    exact ⟨o, e2⟩) hbase (.of ⟨G1, _, .refl _ _, Gh.ext_refl _ _, WK.refl _ _, hgood⟩)
  obtain ⟨q, o2, e1, e2, e3⟩ := hall p c1
  rw [hq] at e1
  cases e1
  have e2 : xrunP K fuel H1.nx p (enterF K f as .normal H1 []) = .ok o2 := e2
  have c2 : xrunP K fuel H1.nx p (enterF K f as .normal H1 []) = .ok ⟨o, rest⟩ := c2
  rw [c2] at e2
  cases e2
  obtain ⟨G3, f3, w3, u, k1, k2, k3, k4, k5, k6, k7, k8⟩ := c3
  obtain ⟨t, H4, r1, r2, r3, r4⟩ := reify_sound 100 o.v u e3 k5 k4
  cases r1
  refine ⟨.returned u, w3, f3, ⟨u, rfl, k3, TRel.mono (fun b hb => ?_) (fun _ _ => rfl) _ _ r4⟩, k1, k7, k8⟩
  obtain ⟨j, p, y, _, _, a3, a4, _⟩ := hb
  rcases r2.src j y a3 with q | q | q
  · rw [a4] at q; exact .inr (.inr q)
  · rw [a4] at q; exact .inl q
  · rw [a4] at q; exact .inr (.inl q)
/-- All paths of one step. -/
theorem paths1 {n : Nat × Nat} {P : List Stp → Prop} (h : ∀ i, i < n.1 → P [(i, n)]) : ∀ p, AP [n] p → P p := by
  intro p hp
  obtain ⟨i, r, rfl, hi, hr⟩ := hp.cons
  obtain rfl : r = [] := by have := hr.1; simpa using this
  exact h i hi
theorem paths2 {n m : Nat × Nat} {P : List Stp → Prop} (h : ∀ i, i < n.1 → ∀ j, j < m.1 → P [(i, n), (j, m)]) : ∀ p, AP [n, m] p → P p := by
  intro p hp
  obtain ⟨i, r, rfl, hi, hr⟩ := hp.cons
  obtain ⟨j, r, rfl, hj, hr⟩ := hr.cons
  obtain rfl : r = [] := by have := hr.1; simpa using this
  exact h i hi j hj
end
end Go.X

