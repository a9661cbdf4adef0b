/- The interpreter of closed calls, and that it is right (part XE): a run of it that ends well tells what the call in the model gives. Conditions: none. -/
import Derived.Test.YtnbgklfnaagklaaGreatDoorXD
import Derived.Calls
set_option linter.unusedVariables false
set_option linter.unusedSimpArgs false
/- The interpreter is right, part 19: frames. -/
namespace Go.X
open Go
section
variable {C : Cx} {B : Nat} {G : Gh} {H : Hp} {w : World}

/-! ### Regions -/
/-- What is left to run of a region that keeps the text's order. -/
def RegR (C : Cx) (fn : FuncId) (ops : Array Oper) (l : List Oper) (is : List Nat) : Prop := ops.toList.all (dstOK (C.nt fn)) = true ∧ ∃ k, l = ops.toList.drop k ∧ is = (List.range ops.size).drop k

/-- The one that writes a temporary. -/
def Wrt (ops : Array Oper) (q t : Nat) : Prop := ∃ o, ops[q]? = some o ∧ o.dst = some t
/-- The values of a region's temporaries where a set of operations has run: there and here. -/
def Vals (G : Gh) (ops : Array Oper) (m d : Nat) (en0 : XEnv) (V : Nat → AV) (D : Nat → Prop) (tmps : Array Value) : Prop :=
  ∀ t, (∀ q, D q → Wrt ops q t → VRel G (V q) (tmps.getD t undef)) ∧ ((∀ q, D q → ¬ Wrt ops q t) → VRel G (rdT m d t en0) (tmps.getD t undef))
def ValsX (ops : Array Oper) (m d : Nat) (en0 : XEnv) (V : Nat → AV) (D : Nat → Prop) (en : XEnv) : Prop :=
  ∀ t, (∀ q, D q → Wrt ops q t → rdT m d t en = V q) ∧ ((∀ q, D q → ¬ Wrt ops q t) → rdT m d t en = rdT m d t en0)
/-- What an operation looks at: what those before it have left. -/
def Looks (ops : Array Oper) (ms : List Nat) (m d : Nat) (en0 : XEnv) (V : Nat → AV) (u : Nat) (o : Oper) (en : XEnv) : Prop :=
  ∀ t ∈ lookT ops o, (∀ q, Wrt ops q t → bef ms u q = true → rdT m d t en = V q) ∧ ((∀ q, Wrt ops q t → bef ms u q = false) → rdT m d t en = rdT m d t en0)
/-- An operation that has run here, not yet there. -/
def Pend (C : Cx) (G : Gh) (H : Hp) (ops : Array Oper) (ms : List Nat) (m d : Nat) (en0 : XEnv) (V : Nat → AV) (I : Nat → Option Nat) (chk : List Ck) (now : Bool) (u : Nat) : Prop :=
  ∃ o en, ops[u]? = some o ∧ actOp o.op = false ∧ Looks ops ms m d en0 V u o en ∧
    ((wantedX m d ops o en = some false ∧ V u = .tup []) ∨
     (wantedX m d ops o en = some true ∧
      ((∃ f, opK C.K.P C.K m d o = .p f ∧ f en = .ok (V u)) ∨
       (∃ f, opK C.K.P C.K m d o = .r f ∧ (now = true → f H en = .ok (V u)) ∧ ∃ c ∈ chk, c.u = u ∧ ∀ H', c.t H' = true → f H' en = .ok (V u)) ∨
       (∃ f ob g id, opK C.K.P C.K m d o = .m f ∧ f en = .ok (ob, g) ∧ V u = g id ∧ I u = some id ∧ G id = none ∧ (now = true → H.get id = some ob) ∧ ∃ c ∈ chk, c.u = u ∧ ∀ H', c.t H' = true → H'.get id = some ob))))
/-- Where a region that draws its order stands: here: those of done; there: those that are not in is. -/
structure DrawR (C : Cx) (fn : FuncId) (G : Gh) (H : Hp) (lo hi : Nat) (ops : Array Oper) (m d : Nat) (done : Nat) (chk : List Ck) (en : XEnv) (is : List Nat) (tmps : Array Value) (now : Bool) : Prop where
  dst : ops.toList.all (dstOK (C.nt fn)) = true
  ok : drawOK ops = true
  nd : is.Nodup
  lt : ∀ i ∈ is, i < ops.size
  lin : ∀ i o, i < ops.size → i ∉ is → ops[i]? = some o → ∀ e ∈ directs o, e ∉ is
  lin2 : ∀ a i b o, is = a ++ i :: b → ops[i]? = some o → ∀ e ∈ directs o, e ∉ i :: b
  sub : ∀ i, i < ops.size → done.testBit i = false → i ∈ is
  act : ∀ i o, ops[i]? = some o → actOp o.op = true → done.testBit i = true → i ∉ is
  cl : ∀ i o, done.testBit i = true → ops[i]? = some o → ∀ e ∈ directs o, done.testBit e = true
  vals : ∃ (en0 : XEnv) (V : Nat → AV) (I : Nat → Option Nat), Vals G ops m d en0 V (fun q => q < ops.size ∧ q ∉ is) tmps ∧ ValsX ops m d en0 V (fun q => done.testBit q = true) en ∧
    (∀ u id, I u = some id → lo ≤ id ∧ id < hi) ∧ (∀ u v id, I u = some id → I v = some id → u = v) ∧
    ∀ u, done.testBit u = true → u ∈ is → Pend C G H ops (Region.before ops).toList m d en0 V I chk now u

theorem Pend.mono {G' : Gh} {H' : Hp} {hi : Nat} {ops : Array Oper} {ms : List Nat} {m d : Nat} {en0 : XEnv} {V : Nat → AV} {I : Nat → Option Nat} {chk : List Ck} {now : Bool} {u : Nat} (h : Pend C G H ops ms m d en0 V I chk now u) (he : Gh.ext hi G G') (hI : ∀ u id, I u = some id → id < hi) :
    Pend C G' H' ops ms m d en0 V I chk false u := by
  obtain ⟨o, en, h1, h2, h3, h4⟩ := h
  refine ⟨o, en, h1, h2, h3, ?_⟩
  rcases h4 with h4 | ⟨h4, h5 | ⟨f, h6, h7, h8⟩ | ⟨f, ob, g, id, h6, h7, h8, h9, h10, h11, h12⟩⟩
  · exact .inl h4
  · exact .inr ⟨h4, .inl h5⟩
  · exact .inr ⟨h4, .inr (.inl ⟨f, h6, fun q => (nomatch q), h8⟩)⟩
  · exact .inr ⟨h4, .inr (.inr ⟨f, ob, g, id, h6, h7, h8, h9, he.2 id (hI u id h9) h10, fun q => (nomatch q), h12⟩)⟩
theorem Vals.mono {G' : Gh} {ops : Array Oper} {m d : Nat} {en0 : XEnv} {V : Nat → AV} {D : Nat → Prop} {tmps : Array Value} (h : Vals G ops m d en0 V D tmps) (hle : G.le G') : Vals G' ops m d en0 V D tmps :=
  fun t => ⟨fun q hq hw => ((h t).1 q hq hw).mono hle, fun hn => ((h t).2 hn).mono hle⟩
theorem DrawR.mono {G' : Gh} {H' : Hp} {fn : FuncId} {lo hi : Nat} {ops : Array Oper} {m d done : Nat} {chk : List Ck} {en : XEnv} {is : List Nat} {tmps : Array Value} {now : Bool} (h : DrawR C fn G H lo hi ops m d done chk en is tmps now) (he : Gh.ext hi G G') :
    DrawR C fn G' H' lo hi ops m d done chk en is tmps false := by
  obtain ⟨en0, V, I, v1, v2, v3, v4, v5⟩ := h.vals
  exact ⟨h.dst, h.ok, h.nd, h.lt, h.lin, h.lin2, h.sub, h.act, h.cl, en0, V, I, v1.mono he.1, v2, v3, v4, fun u q1 q2 => (v5 u q1 q2).mono he fun u id q => (v3 u id q).2⟩

/-! ### What is still to do -/
inductive ItR (C : Cx) (fn : FuncId) (G : Gh) : XItem → Item → Prop
  | code (c : Code) (h : C.okC fn c) : ItR C fn G (.code c) (.code c)
  | inBlock (id : Nat) : ItR C fn G (.inBlock id) (.inBlock id)
  | inLoop (c : Code) (h : C.okC fn c) : ItR C fn G (.inLoop c) (.inLoop c)
  | inScope (c : Code) (h : C.okC fn c) : ItR C fn G (.inScope c) (.inScope c)
  | inRF {l : Nat} {x : Blk} (h : G l = some x) : ItR C fn G (.inRF l) (.inRangeFunc x.b)
  | endRF {l : Nat} {x : Blk} (h : G l = some x) : ItR C fn G (.endRF l) (.endRangeFunc x.b)
  | beginRound : ItR C fn G .beginRound .beginRound
theorem ItR.mono {G' : Gh} (hle : G.le G') {fn : FuncId} {a : XItem} {b : Item} (h : ItR C fn G a b) : ItR C fn G' a b := by
  cases h with
  | code c h => exact .code c h
  | inBlock id => exact .inBlock id
  | inLoop c h => exact .inLoop c h
  | inScope c h => exact .inScope c h
  | inRF h => exact .inRF (hle _ _ h)
  | endRF h => exact .endRF (hle _ _ h)
  | beginRound => exact .beginRound
abbrev ItsR (C : Cx) (fn : FuncId) (G : Gh) := All2 (ItR C fn G)
theorem ItsR.mono {G' : Gh} (hle : G.le G') {fn : FuncId} {a : List XItem} {b : List Item} (h : ItsR C fn G a b) : ItsR C fn G' a b := h.imp fun _ _ => ItR.mono hle

inductive TodoR (C : Cx) (fn : FuncId) (G : Gh) (H : Hp) (lo hi : Nat) (m d : Nat) (base : Tr AV) (tmps : Array Value) (now : Bool) : List XItem → List Item → Prop
  | plain {k : List XItem} {k' : List Item} (hb : BRel G m d base tmps) (hk : ItsR C fn G k k') : TodoR C fn G H lo hi m d base tmps now k k'
  | reg {ops : Array Oper} {l : List Oper} {is : List Nat} {loc : List (Nat × AV)} {k : List XItem} {k' : List Item} (hb : TRl G m d ⟨loc, base⟩ tmps) (hr : RegR C fn ops l is) (hk : ItsR C fn G k k') :
      TodoR C fn G H lo hi m d base tmps now (.inReg ops l loc :: k) (.inRegion ops is :: k')
  | draw {ops : Array Oper} {done : Nat} {rest : List (Nat × Oper)} {chk : List Ck} {loc : List (Nat × AV)} {is : List Nat} {k : List XItem} {k' : List Item} (hr : rest = (numbered ops.toList 0).filter fun x => !done.testBit x.1)
      (h : DrawR C fn G H lo hi ops m d done chk ⟨loc, base⟩ is tmps now) (hk : ItsR C fn G k k') : TodoR C fn G H lo hi m d base tmps now (.inDraw ops done rest chk loc :: k) (.inRegion ops is :: k')
  | drawW {ops : Array Oper} {done i : Nat} {o : Oper} {rest : List (Nat × Oper)} {chk : List Ck} {loc : List (Nat × AV)} {is : List Nat} {k : List XItem} {k' : List Item} (ho : ops[i]? = some o) (ha : actOp o.op = true) (hd : done.testBit i = false)
      (hr : rest = (numbered ops.toList 0).filter fun x => !(Nat.lor done (Nat.pow 2 i)).testBit x.1)
      (h : DrawR C fn G H lo hi ops m d done chk ⟨loc, base⟩ (i :: is) tmps now) (hk : ItsR C fn G k k') : TodoR C fn G H lo hi m d base tmps now (.inDrawW ops done i o rest chk loc :: k) (.inRegion ops (i :: is) :: k')
theorem TodoR.mono {G' : Gh} {H' : Hp} {fn : FuncId} {lo hi : Nat} {m d : Nat} {base : Tr AV} {tmps : Array Value} {now : Bool} {k : List XItem} {k' : List Item} (h : TodoR C fn G H lo hi m d base tmps now k k') (he : Gh.ext hi G G') :
    TodoR C fn G' H' lo hi m d base tmps false k k' := by
  cases h with
  | plain hb hk => exact .plain (hb.mono he.1) (hk.mono he.1)
  | reg hb hr hk => exact .reg (hb.mono he.1) hr (hk.mono he.1)
  | draw hr h hk => exact .draw hr (h.mono he) (hk.mono he.1)
  | drawW ho ha hd hr h hk => exact .drawW ho ha hd hr (h.mono he) (hk.mono he.1)

/-! ### Frames -/
def RoundR (G : Gh) (a b : Option Nat) : Prop := match a, b with
  | none, none => True
  | some l, some l' => ∃ x, G l = some x ∧ x.b = l'
  | _, _ => False
theorem RoundR.mono {G' : Gh} (hle : G.le G') {a b : Option Nat} (h : RoundR G a b) : RoundR G' a b := by
  cases a <;> cases b <;> first | exact h | (obtain ⟨x, h1, h2⟩ := h; exact ⟨x, hle _ _ h1, h2⟩)
/-- What is said of a frame, but for where it stands. -/
structure FrB (C : Cx) (G : Gh) (fr : FR) (f : Frame) : Prop where
  fn : f.fn = fr.fn
  m : fr.m = (C.K.mask fr.fn).1
  d : fr.d = (C.K.mask fr.fn).2
  sz : f.tmps.size = C.nt fr.fn
  defers : DefsRel G fr.defers f.defers
  kind : f.kind = fr.kind
  knd : fr.kind = .normal ∨ fr.kind = .deferred
  round : RoundR G fr.roundOf f.roundOf
theorem FrB.mono {G' : Gh} (hle : G.le G') {fr : FR} {f : Frame} (h : FrB C G fr f) : FrB C G' fr f := ⟨h.fn, h.m, h.d, h.sz, h.defers.mono hle, h.kind, h.knd, h.round.mono hle⟩
def ModeR (a : XMode) (b : FrameMode) : Prop := match a, b with
  | .run, .run => True
  | .returning, .returning => True
  | _, _ => False
structure FrR (C : Cx) (G : Gh) (H : Hp) (lo hi : Nat) (base : Tr AV) (todo : List XItem) (fr : FR) (now : Bool) (f : Frame) : Prop where
  b : FrB C G fr f
  todo : TodoR C fr.fn G H lo hi fr.m fr.d base f.tmps now todo f.todo
theorem FrR.mono {G' : Gh} {H' : Hp} {lo hi : Nat} {base : Tr AV} {todo : List XItem} {fr : FR} {now : Bool} {f : Frame} (h : FrR C G H lo hi base todo fr now f) (he : Gh.ext hi G G') : FrR C G' H' lo hi base todo fr false f :=
  ⟨h.b.mono he.1, h.todo.mono he⟩
theorem Gh.ext_le {n m : Nat} {G G' : Gh} (h : Gh.ext m G G') (hn : n ≤ m) : Gh.ext n G G' := ⟨h.1, fun id hid => h.2 id (by omega)⟩
/-- The frames that wait; hi: what they have made and is not yet of the world lies below it. -/
inductive StackR (C : Cx) (G : Gh) (n0 : Nat) (cs0 : List Frame) : Nat → List XFrame → List Frame → Prop
  | nil {hi : Nat} : StackR C G n0 cs0 hi [] cs0
  | run {hi lo : Nat} {H : Hp} {x : XFrame} {f : Frame} {cs : List XFrame} {fs : List Frame} (hl : n0 ≤ lo) (hlh : lo ≤ hi) (hm : x.mode = .run) (hm' : f.mode = .run) (h : FrR C G H lo hi x.base x.todo x.fr false f) (t : StackR C G n0 cs0 lo cs fs) : StackR C G n0 cs0 hi (x :: cs) (f :: fs)
  | ret {hi lo : Nat} {x : XFrame} {f : Frame} {cs : List XFrame} {fs : List Frame} (hl : n0 ≤ lo) (hlh : lo ≤ hi) (hm : x.mode = .returning) (hm' : f.mode = .returning) (h : FrB C G x.fr f) (hb : BRel G x.fr.m x.fr.d x.base f.tmps) (t : StackR C G n0 cs0 lo cs fs) : StackR C G n0 cs0 hi (x :: cs) (f :: fs)
theorem StackR.mono {G' : Gh} {n0 : Nat} {cs0 : List Frame} {hi : Nat} {cs : List XFrame} {fs : List Frame} (h : StackR C G n0 cs0 hi cs fs) (he : Gh.ext hi G G') : StackR C G' n0 cs0 hi cs fs := by
  induction h with
  | nil => exact .nil
  | @run hi lo H x f cs fs hl hlh hm hm' h t ih => exact .run (H := H) hl hlh hm hm' (h.mono he) (ih (Gh.ext_le he hlh))
  | ret hl hlh hm hm' h hb _ ih => exact .ret hl hlh hm hm' (h.mono he.1) (hb.mono he.1) (ih (Gh.ext_le he hlh))
/-- The frame of the call itself. -/
def Bot (f0 : FuncId) : FR → List XFrame → Prop
  | fr, [] => fr.fn = f0 ∧ fr.kind = .normal ∧ fr.roundOf = none
  | _, x :: cs => Bot f0 x.fr cs

/-! ### Where a run stands -/
/-- Machine and state. -/
def Good0 (C : Cx) (B : Nat) (f0 : FuncId) (cs0 : List Frame) (n0 : Nat) (G : Gh) (m : Machine) : SR → Prop
  | .go H base todo fr cs => ∃ f fs w lo, m = lone f fs w ∧ HR C B G H w ∧ n0 ≤ lo ∧ lo ≤ H.nx ∧ FrR C G H lo H.nx base todo fr true f ∧ f.mode = .run ∧ StackR C G n0 cs0 lo cs fs ∧ Bot f0 fr cs
  | .unw H base fr cs => ∃ f fs w lo, m = lone f fs w ∧ HR C B G H w ∧ n0 ≤ lo ∧ lo ≤ H.nx ∧ FrB C G fr f ∧ BRel G fr.m fr.d base f.tmps ∧ f.mode = .returning ∧ StackR C G n0 cs0 lo cs fs ∧ Bot f0 fr cs
  | .jump g args H base todo fr cs => ∃ f fs w lo, ∃ us : List Value, m = lone (Frame.enter C.K.P g us.toArray .normal) (f :: fs) w ∧ HR C B G H w ∧ n0 ≤ lo ∧ lo ≤ H.nx ∧ VRels G args us ∧ FrR C G H lo H.nx base todo fr false f ∧ f.mode = .run ∧ StackR C G n0 cs0 lo cs fs ∧ Bot f0 fr cs
  | .done v H => ∃ f w u, m = lone f cs0 w ∧ HR C B G H w ∧ n0 ≤ H.nx ∧ VRel G v u ∧ f.fn = f0 ∧ f.leaving C.K.P w (.returned u)
  | .branch .. => False
  | .er _ => True
/-- The machine comes to such a state. -/
def Reach0 (C : Cx) (B : Nat) (f0 : FuncId) (cs0 : List Frame) (n0 : Nat) (G : Gh) (w : World) (m : Machine) (s : SR) : Prop :=
  ∃ G' m', Steps C.K.P m m' ∧ Gh.ext n0 G G' ∧ WK B w m'.world ∧ Good0 C B f0 cs0 n0 G' m' s
def Reach (C : Cx) (B : Nat) (f0 : FuncId) (cs0 : List Frame) (n0 : Nat) (G : Gh) (w : World) (m : Machine) (s : SR) : Prop :=
  match s with
  | .branch l base todo fr cs => ∃ x ∈ l, Reach0 C B f0 cs0 n0 G w m (finish x.2 base todo fr cs x.1)
  | .er _ => True
  | s => Reach0 C B f0 cs0 n0 G w m s
theorem Reach0.pre {f0 : FuncId} {cs0 : List Frame} {n0 : Nat} {G0 : Gh} {w0 : World} {m0 m : Machine} {s : SR} (h : Reach0 C B f0 cs0 n0 G w m s) (hs : Steps C.K.P m0 m) (he : Gh.ext n0 G0 G) (hw : WK B w0 w) : Reach0 C B f0 cs0 n0 G0 w0 m0 s := by
  obtain ⟨G', m', h1, h2, h3, h4⟩ := h
  exact ⟨G', m', hs.trans h1, Gh.ext_trans he h2 (Nat.le_refl _), hw.trans h3, h4⟩
theorem Reach.of {f0 : FuncId} {cs0 : List Frame} {n0 : Nat} {m : Machine} {s : SR} (h : Reach0 C B f0 cs0 n0 G w m s) : Reach C B f0 cs0 n0 G w m s := by
  cases s with
  | branch l base todo fr cs => obtain ⟨G', m', _, _, _, h4⟩ := h; exact h4.elim
  | er s => trivial
  | _ => exact h
theorem Reach.pre {f0 : FuncId} {cs0 : List Frame} {n0 : Nat} {G0 : Gh} {w0 : World} {m0 m : Machine} {s : SR} (h : Reach C B f0 cs0 n0 G w m s) (hs : Steps C.K.P m0 m) (he : Gh.ext n0 G0 G) (hw : WK B w0 w) : Reach C B f0 cs0 n0 G0 w0 m0 s := by
  cases s with
  | branch l base todo fr cs => obtain ⟨x, hx, h⟩ := h; exact ⟨x, hx, h.pre hs he hw⟩
  | er s => trivial
  | _ => exact Reach0.pre h hs he hw
end
end Go.X

/- The interpreter is right, part 20: the order of a region; a value comes to where a frame stands. -/
namespace Go.X
open Go
section
variable {C : Cx} {B : Nat} {G : Gh} {H : Hp} {w : World} {f0 : FuncId} {cs0 : List Frame} {n0 : Nat}

theorem memN_iff {l : List Nat} {x : Nat} : memN l x = true ↔ x ∈ l := by
  induction l with
  | nil => exact ⟨fun h => (nomatch (show false = true from h)), fun h => (nomatch h)⟩
  | cons y r ih =>
    show (Bool.rec (motive := fun _ => Bool) (memN r x) true (Nat.beq y x)) = true ↔ _
    rw [nbeq_eq]
    by_cases e : y = x
    · subst e; simp
    · simp [e, Ne.symm e, ih]
theorem imp_iff {a b : Bool} : imp a b = true ↔ (a = true → b = true) := by cases a <;> cases b <;> decide

structure DOK (ops : Array Oper) (ms : List Nat) : Prop where
  dlt : ∀ (i : Nat) (o : Oper), ops[i]? = some o → ∀ e ∈ directs o, e < i
  msk : ∀ (i : Nat) (o : Oper), ops[i]? = some o → ms.getD i 0 = mask1 ms (directs o)
  grd : ∀ (i : Nat) (o : Oper), ops[i]? = some o → guardOK ops o = true
  pair : ∀ (i u : Nat) (o p : Oper), ops[i]? = some o → ops[u]? = some p → u < i → pairOK ops ms i u o p = true
theorem lt_of_op {ops : Array Oper} {i : Nat} {o : Oper} (h : ops[i]? = some o) : i < ops.size := (Array.getElem?_eq_some_iff.1 h).1
theorem drawOK_spec {ops : Array Oper} (h : drawOK ops = true) : DOK ops (Region.before ops).toList := by
  unfold drawOK at h
  rw [forceLN_eq, List.all_eq_true] at h
  have key : ∀ i o, ops[i]? = some o → ((directs o).all (fun e => Nat.blt e i) && Nat.beq ((Region.before ops).toList.getD i 0) (mask1 (Region.before ops).toList (directs o)) && guardOK ops o && (List.range i).all fun u => match ops[u]? with
    | some p => pairOK ops (Region.before ops).toList i u o p
    | none => false) = true := by
    intro i o ho
    have := h i (List.mem_range.2 (lt_of_op ho))
    rw [ho] at this
    exact this
  refine ⟨fun i o ho e he => ?_, fun i o ho => ?_, fun i o ho => ?_, fun i u o p ho hp hlt => ?_⟩ <;> have hk := key i o ho <;> simp only [Bool.and_eq_true] at hk
  · have := List.all_eq_true.1 hk.1.1.1 e he
    rwa [nblt_eq, decide_eq_true_iff] at this
  · have := hk.1.1.2
    rwa [nbeq_eq, decide_eq_true_iff] at this
  · exact hk.1.2
  · have := List.all_eq_true.1 hk.2 u (List.mem_range.2 hlt)
    simpa only [hp] using this

theorem mask1_spec {ms : List Nat} {u : Nat} : ∀ {l : List Nat}, Nat.testBit (mask1 ms l) u = true → ∃ e ∈ l, e = u ∨ bef ms e u = true
  | [], h => by simp [mask1] at h
  | e :: r, h => by
    have h : Nat.testBit ((2 ^ e ||| ms.getD e 0) ||| mask1 ms r) u = true := h
    simp only [Nat.testBit_or, Bool.or_eq_true] at h
    rcases h with (h | h) | h
    · rw [Nat.testBit_two_pow] at h
      exact ⟨e, List.mem_cons_self, .inl (by simpa using h)⟩
    · exact ⟨e, List.mem_cons_self, .inr h⟩
    · obtain ⟨x, hx, q⟩ := mask1_spec h
      exact ⟨x, List.mem_cons_of_mem _ hx, q⟩

section
variable {ops : Array Oper} {ms : List Nat}
theorem DOK.bef_lt (h : DOK ops ms) : ∀ (i : Nat) (o : Oper), ops[i]? = some o → ∀ u, bef ms i u = true → u < i := by
  intro i
  induction i using Nat.strongRecOn with
  | _ i ih =>
    intro o ho u hu
    rw [bef, h.msk i o ho] at hu
    obtain ⟨e, he, q⟩ := mask1_spec hu
    have hlt := h.dlt i o ho e he
    rcases q with rfl | q
    · exact hlt
    · have hi := lt_of_op ho
      exact Nat.lt_trans (ih e hlt ops[e] (Array.getElem?_eq_getElem (by omega)) u q) hlt
/-- What stands before what is in a set that is closed is in it. -/
theorem DOK.closed (h : DOK ops ms) {S : Nat → Prop} (cl : ∀ i o, S i → ops[i]? = some o → ∀ e ∈ directs o, S e) : ∀ (i : Nat) (o : Oper), ops[i]? = some o → (∀ e ∈ directs o, S e) → ∀ u, bef ms i u = true → S u := by
  intro i
  induction i using Nat.strongRecOn with
  | _ i ih =>
    intro o ho hd u hu
    rw [bef, h.msk i o ho] at hu
    obtain ⟨e, he, q⟩ := mask1_spec hu
    have hlt := h.dlt i o ho e he
    rcases q with rfl | q
    · exact hd _ he
    · have hi := lt_of_op ho
      have hoe : ops[e]? = some ops[e] := Array.getElem?_eq_getElem (by omega)
      exact ih e hlt _ hoe (cl e _ (hd e he) hoe) u q
theorem DOK.uniq (h : DOK ops ms) {q q' t : Nat} (a : Wrt ops q t) (b : Wrt ops q' t) : q = q' := by
  have key : ∀ {q q' : Nat}, Wrt ops q t → Wrt ops q' t → q' < q → False := by
    rintro q q' ⟨o, ho, hd⟩ ⟨p, hp, hd'⟩ hlt
    have := h.pair q q' o p ho hp hlt
    simp [pairOK, hd, hd', nbeq_eq] at this
  rcases Nat.lt_trichotomy q q' with e | e | e
  · exact (key b a e).elim
  · exact e
  · exact (key a b e).elim
theorem DOK.look (h : DOK ops ms) {i q t : Nat} {o : Oper} (ho : ops[i]? = some o) (ht : t ∈ lookT ops o) (hw : Wrt ops q t) (hne : q ≠ i) : bef ms i q = true ∨ bef ms q i = true := by
  obtain ⟨p, hp, hd⟩ := hw
  rcases Nat.lt_or_ge q i with e | e
  · have := h.pair i q o p ho hp e
    simp only [pairOK, hd, Bool.and_eq_true, imp_iff, memN_iff] at this
    exact .inl (this.1.2.1 ht)
  · have := h.pair q i p o hp ho (by omega)
    simp only [pairOK, hd, Bool.and_eq_true, imp_iff, memN_iff] at this
    exact .inr (this.2 ht)
theorem DOK.acts (h : DOK ops ms) {i u : Nat} {o p : Oper} (ho : ops[i]? = some o) (hp : ops[u]? = some p) (ha : actOp o.op = true) (hb : actOp p.op = true) (hlt : u < i) : bef ms i u = true := by
  have := h.pair i u o p ho hp hlt
  simp only [pairOK, Bool.and_eq_true, imp_iff] at this
  exact this.1.1 ⟨ha, hb⟩
end

noncomputable def updV (V : Nat → AV) (i : Nat) (v : AV) : Nat → AV := fun j => if j = i then v else V j
@[simp] theorem updV_same (V : Nat → AV) (i : Nat) (v : AV) : updV V i v i = v := by simp [updV]
theorem updV_other (V : Nat → AV) {i j : Nat} (v : AV) (h : j ≠ i) : updV V i v j = V j := by simp [updV, h]
/-- Temporaries behind a value. -/
def putT' (tmps : Array Value) (dst : Option Tmp) (u : Value) : Array Value := match dst with | some t => tmps.setIfInBounds t u | none => tmps
@[simp] theorem putT'_size (tmps : Array Value) (dst : Option Tmp) (u : Value) : (putT' tmps dst u).size = tmps.size := by cases dst <;> simp [putT']
theorem putT'_get (tmps : Array Value) (dst : Option Tmp) (u : Value) (t : Nat) (h : ∀ s, dst = some s → s < tmps.size) : (putT' tmps dst u).getD t undef = if dst = some t then u else tmps.getD t undef := by
  cases dst with
  | none => simp [putT']
  | some s =>
    have := h s rfl
    by_cases e : s = t
    · subst e; simp [putT', Array.getD_eq_getD_getElem?, Array.getElem?_setIfInBounds, this]
    · simp [putT', Array.getD_eq_getD_getElem?, Array.getElem?_setIfInBounds, e]

section
variable {ops : Array Oper} {ms : List Nat} {m d : Nat} {en0 en : XEnv} {V : Nat → AV} {D : Nat → Prop} {tmps : Array Value}
theorem Vals.put (hd : DOK ops ms) (h : Vals G ops m d en0 V D tmps) {i : Nat} {o : Oper} (ho : ops[i]? = some o) (hi : ¬ D i) (hs : ∀ s, o.dst = some s → s < tmps.size) {v : AV} {u : Value} (hv : VRel G v u) :
    Vals G ops m d en0 (updV V i v) (fun q => D q ∨ q = i) (putT' tmps o.dst u) := by
  intro t
  rw [putT'_get _ _ _ _ hs]
  constructor
  · intro q hq hw
    by_cases e : q = i
    · subst e
      obtain ⟨p, hp, hpd⟩ := hw
      rw [ho] at hp; cases hp
      rw [if_pos hpd, updV_same]; exact hv
    · have hq' : D q := hq.resolve_right e
      have : o.dst ≠ some t := fun hdt => e (hd.uniq hw ⟨o, ho, hdt⟩)
      rw [if_neg this, updV_other _ _ e]
      exact (h t).1 q hq' hw
  · intro hn
    have : o.dst ≠ some t := fun hdt => hn i (.inr rfl) ⟨o, ho, hdt⟩
    rw [if_neg this]
    exact (h t).2 fun q hq => hn q (.inl hq)
theorem ValsX.put (hd : DOK ops ms) (h : ValsX ops m d en0 V D en) {i : Nat} {o : Oper} (ho : ops[i]? = some o) (hi : ¬ D i) (v : AV) :
    ValsX ops m d en0 (updV V i v) (fun q => D q ∨ q = i) (wrE m d o.dst v en) := by
  intro t
  rw [rdT_wrE]
  constructor
  · intro q hq hw
    by_cases e : q = i
    · subst e
      obtain ⟨p, hp, hpd⟩ := hw
      rw [ho] at hp; cases hp
      rw [if_pos hpd, updV_same]
    · have hq' : D q := hq.resolve_right e
      have : o.dst ≠ some t := fun hdt => e (hd.uniq hw ⟨o, ho, hdt⟩)
      rw [if_neg this, updV_other _ _ e]
      exact (h t).1 q hq' hw
  · intro hn
    have : o.dst ≠ some t := fun hdt => hn i (.inr rfl) ⟨o, ho, hdt⟩
    rw [if_neg this]
    exact (h t).2 fun q hq => hn q (.inl hq)
theorem Vals.congr {D' : Nat → Prop} (h : Vals G ops m d en0 V D tmps) (e : ∀ q, D q ↔ D' q) : Vals G ops m d en0 V D' tmps := by
  have : D = D' := funext fun q => propext (e q)
  rw [← this]; exact h
theorem ValsX.congr {D' : Nat → Prop} (h : ValsX ops m d en0 V D en) (e : ∀ q, D q ↔ D' q) : ValsX ops m d en0 V D' en := by
  have : D = D' := funext fun q => propext (e q)
  rw [← this]; exact h
theorem Looks.upd (hd : DOK ops ms) {u i : Nat} {o : Oper} (hu : ops[u]? = some o) {e0 : XEnv} (h : Looks ops ms m d en0 V u o e0) (hi : bef ms u i = false) (v : AV) : Looks ops ms m d en0 (updV V i v) u o e0 := by
  intro t ht
  refine ⟨fun q hq hb => ?_, (h t ht).2⟩
  have : q ≠ i := fun e => by subst e; rw [hb] at hi; cases hi
  rw [updV_other _ _ this]
  exact (h t ht).1 q hq hb
end

theorem lor_bit (d i j : Nat) : (Nat.lor d (Nat.pow 2 i)).testBit j = (d.testBit j || decide (i = j)) := by
  show (d ||| 2 ^ i).testBit j = _
  rw [Nat.testBit_or, Nat.testBit_two_pow]
theorem dst_lt {nt : Nat} {ops : Array Oper} (h : ops.toList.all (dstOK nt) = true) {i : Nat} {o : Oper} (ho : ops[i]? = some o) {s : Tmp} (hs : o.dst = some s) : s < nt := by
  have hm : o ∈ ops.toList := by
    have := lt_of_op ho
    have e := Array.getElem?_eq_getElem this
    rw [e] at ho; cases ho
    exact Array.getElem_mem_toList _
  have := List.all_eq_true.1 h o hm
  rw [dstOK, hs] at this
  simpa only [nblt_eq, decide_eq_true_iff] using this

/-- What acts has acted. -/
theorem DrawR.acted {fn : FuncId} {ops : Array Oper} {m d done i : Nat} {o : Oper} {chk : List Ck} {en : XEnv} {is : List Nat} {tmps : Array Value} {lo hi : Nat} (h : DrawR C fn G H lo hi ops m d done chk en (i :: is) tmps false) (hhi : hi ≤ H.nx)
    (hsz : tmps.size = C.nt fn) (ho : ops[i]? = some o) (ha : actOp o.op = true) (hdn : done.testBit i = false) {v : AV} {u : Value} (hv : VRel G v u)
    (hck : (chk.filter fun c => !((Region.before ops).getD i 0).testBit c.u).all (fun c => c.t H) = true) :
    DrawR C fn G H lo H.nx ops m d (Nat.lor done (Nat.pow 2 i)) (chk.filter fun c => !((Region.before ops).getD i 0).testBit c.u) (wrE m d o.dst v en) is (putT' tmps o.dst u) true := by
  have hd := drawOK_spec h.ok
  have hnd := List.nodup_cons.1 h.nd
  have hil : i < ops.size := lt_of_op ho
  have hdir : ∀ e ∈ directs o, e ∉ i :: is := h.lin2 [] i is o rfl ho
  have hclosed : ∀ j p, (j < ops.size ∧ j ∉ i :: is) → ops[j]? = some p → ∀ e ∈ directs p, (e < ops.size ∧ e ∉ i :: is) := fun j p hj hp e he =>
    ⟨by have := hd.dlt j p hp e he; omega, h.lin j p hj.1 hj.2 hp e he⟩
  have hbef : ∀ q, bef (Region.before ops).toList i q = true → q ∉ i :: is := fun q hq =>
    (hd.closed (S := fun j => j < ops.size ∧ j ∉ i :: is) hclosed i o ho (fun e he => ⟨by have := hd.dlt i o ho e he; omega, hdir e he⟩) q hq).2
  have hdirdone : ∀ e ∈ directs o, done.testBit e = true := fun e he => by
    cases hb : done.testBit e with
    | true => rfl
    | false =>
      have := h.sub e (by have := hd.dlt i o ho e he; omega) hb
      exact absurd this (hdir e he)
  obtain ⟨en0, V, I, v1, v2, v3, v4, v5⟩ := h.vals
  refine ⟨h.dst, h.ok, hnd.2, fun j hj => h.lt j (List.mem_cons_of_mem _ hj), ?_, ?_, ?_, ?_, ?_, en0, updV V i v, I, ?_, ?_, fun u id q => ⟨(v3 u id q).1, Nat.lt_of_lt_of_le (v3 u id q).2 hhi⟩, v4, ?_⟩
  · intro j p hj hji hp e he hmem
    by_cases e1 : j = i
    · subst e1; rw [ho] at hp; cases hp; exact hdir e he (List.mem_cons_of_mem _ hmem)
    · exact h.lin j p hj (by simp [e1, hji]) hp e he (List.mem_cons_of_mem _ hmem)
  · intro a j b p hb hp e he
    exact h.lin2 (i :: a) j b p (by rw [hb]; rfl) hp e he
  · intro j hj hb
    rw [lor_bit, Bool.or_eq_false_iff, decide_eq_false_iff_not] at hb
    have := h.sub j hj hb.1
    rcases List.mem_cons.1 this with e | e
    · exact absurd e.symm hb.2
    · exact e
  · intro j p hp hap hb hmem
    rw [lor_bit, Bool.or_eq_true, decide_eq_true_iff] at hb
    rcases hb with hb | e
    · exact h.act j p hp hap hb (List.mem_cons_of_mem _ hmem)
    · subst e; exact hnd.1 hmem
  · intro j p hb hp e he
    rw [lor_bit, Bool.or_eq_true, decide_eq_true_iff] at hb ⊢
    rcases hb with hb | e1
    · exact .inl (h.cl j p hb hp e he)
    · subst e1; rw [ho] at hp; cases hp; exact .inl (hdirdone e he)
  · refine (v1.put hd ho (by simp) (fun s hs => by rw [hsz]; exact dst_lt h.dst ho hs) hv).congr fun q => ?_
    constructor
    · rintro (⟨q1, q2⟩ | rfl)
      · exact ⟨q1, fun q3 => q2 (List.mem_cons_of_mem _ q3)⟩
      · exact ⟨hil, hnd.1⟩
    · rintro ⟨q1, q2⟩
      by_cases e : q = i
      · exact .inr e
      · exact .inl ⟨q1, by simp [e, q2]⟩
  · refine (v2.put hd ho (by simp [hdn]) v).congr fun q => ?_
    rw [lor_bit, Bool.or_eq_true, decide_eq_true_iff]
    constructor
    · rintro (q1 | q1)
      · exact .inl q1
      · exact .inr q1.symm
    · rintro (q1 | q1)
      · exact .inl q1
      · exact .inr q1.symm
  · intro j hb hj
    have hji : j ≠ i := fun e => by subst e; exact hnd.1 hj
    have hbj : done.testBit j = true := by
      rw [lor_bit, Bool.or_eq_true, decide_eq_true_iff] at hb
      exact hb.resolve_right fun e => hji e.symm
    obtain ⟨p, ej, p1, p2, p3, p4⟩ := v5 j hbj (List.mem_cons_of_mem _ hj)
    have hbi : bef (Region.before ops).toList j i = false := by
      cases hq : bef (Region.before ops).toList j i with
      | false => rfl
      | true =>
        have := hd.closed (S := fun q => done.testBit q = true) (fun q r a b => h.cl q r a b) j p p1 (h.cl j p hbj p1) i hq
        rw [hdn] at this; cases this
    have hkeep : ∀ c ∈ chk, c.u = j → c ∈ chk.filter fun c => !((Region.before ops).getD i 0).testBit c.u := by
      intro c hc hcu
      refine List.mem_filter.2 ⟨hc, ?_⟩
      rw [hcu]
      cases hq : ((Region.before ops).getD i 0).testBit j with
      | false => rfl
      | true =>
        have : bef (Region.before ops).toList i j = true := by
          rw [bef, ← hq]; congr 1; simp [Array.getD_eq_getD_getElem?, List.getD_eq_getElem?_getD]
        exact absurd (List.mem_cons_of_mem _ hj) (hbef j this)
    refine ⟨p, ej, p1, p2, p3.upd hd p1 hbi v, ?_⟩
    rw [updV_other _ _ hji]
    rcases p4 with p4 | ⟨p4, p5 | ⟨f, p6, p7, c, p8, p9, p10⟩ | ⟨f, ob, g, id, p6, p7, p8, p9, p10, p11, c, p12, p13, p14⟩⟩
    · exact .inl p4
    · exact .inr ⟨p4, .inl p5⟩
    · have hcm := hkeep c p8 p9
      have hct := List.all_eq_true.1 hck c hcm
      exact .inr ⟨p4, .inr (.inl ⟨f, p6, fun _ => p10 H hct, c, hcm, p9, p10⟩)⟩
    · have hcm := hkeep c p12 p13
      have hct := List.all_eq_true.1 hck c hcm
      exact .inr ⟨p4, .inr (.inr ⟨f, ob, g, id, p6, p7, p8, p9, p10, fun _ => p14 H hct, c, hcm, p13, p14⟩)⟩
end
end Go.X

/- The interpreter is right, part 21: a value comes; a call begins; what is asked of the machine. -/
namespace Go.X
open Go
section
variable {C : Cx} {B : Nat} {G : Gh} {H : Hp} {w : World} {f0 : FuncId} {cs0 : List Frame} {n0 : Nat}

theorem FrB.upd {fr : FR} {f : Frame} (h : FrB C G fr f) {tmps : Array Value} {todo : List Item} (hs : tmps.size = f.tmps.size) : FrB C G fr { f with tmps := tmps, todo := todo } :=
  ⟨h.fn, h.m, h.d, hs.trans h.sz, h.defers, h.kind, h.knd, h.round⟩
theorem FrB.todo {fr : FR} {f : Frame} (h : FrB C G fr f) {todo : List Item} : FrB C G fr { f with todo := todo } :=
  ⟨h.fn, h.m, h.d, h.sz, h.defers, h.kind, h.knd, h.round⟩

theorem finish_region {f : Frame} {ops : Array Oper} {i : Nat} {is : List Nat} {k : List Item} {o : Oper} (ht : f.todo = .inRegion ops (i :: is) :: k) (ho : ops[i]? = some o) (u : Value) :
    f.finish u = { f with tmps := putT' f.tmps o.dst u, todo := .inRegion ops is :: k } := by
  unfold Frame.finish
  rw [ht]
  simp only [ho, Option.bind_some]
  cases o.dst <;> rfl
theorem reg_head {ops : Array Oper} {o : Oper} {r : List Oper} {k : Nat} (h : o :: r = ops.toList.drop k) : ops[k]? = some o ∧ r = ops.toList.drop (k + 1) ∧ (List.range ops.size).drop k = k :: (List.range ops.size).drop (k + 1) := by
  have hk : k < ops.toList.length := by
    rcases Nat.lt_or_ge k ops.toList.length with q | q
    · exact q
    · rw [List.drop_eq_nil_of_le q] at h; cases h
  rw [List.drop_eq_getElem_cons hk] at h
  cases h
  refine ⟨by rw [← Array.getElem?_toList, List.getElem?_eq_getElem hk], rfl, ?_⟩
  have hk' : k < (List.range ops.size).length := by simpa using hk
  rw [List.drop_eq_getElem_cons hk', List.getElem_range]

theorem finish_sim (hr : HR C B G H w) {lo hi : Nat} (hn : n0 ≤ lo) (hlh : lo ≤ hi) (hhi : hi ≤ H.nx) {base : Tr AV} {todo : List XItem} {fr : FR} {cs : List XFrame} {f : Frame} {fs : List Frame} (h : FrR C G H lo hi base todo fr false f) (hm : f.mode = .run) (hs : StackR C G n0 cs0 lo cs fs) (hb : Bot f0 fr cs) {v : AV} {u : Value} (hv : VRel G v u) :
    Good0 C B f0 cs0 n0 G (lone (f.finish u) fs w) (finish H base todo fr cs v) := by
  obtain ⟨hB, hT⟩ := h
  generalize hft : f.todo = ft at hT
  cases hT with
  | plain hbr hk =>
    cases hk with
    | nil => exact trivial
    | @cons _ _ k k' hi ht =>
      cases hi with
      | @inRF l x hx =>
        have : f.finish u = { f with todo := .endRangeFunc x.b :: k' } := by unfold Frame.finish; rw [hft]
        rw [this]
        exact ⟨_, fs, w, lo, rfl, hr, hn, Nat.le_trans hlh hhi, ⟨hB.todo, .plain hbr (.cons (.endRF hx) ht)⟩, hm, hs, hb⟩
      | beginRound =>
        have : f.finish u = { f with todo := k' } := by unfold Frame.finish; rw [hft]
        rw [this]
        exact ⟨_, fs, w, lo, rfl, hr, hn, Nat.le_trans hlh hhi, ⟨hB.todo, .plain hbr ht⟩, hm, hs, hb⟩
      | _ => exact trivial
  | @reg ops l is loc k k' hbr hR hk =>
    obtain ⟨hall, kk, hl, his⟩ := hR
    cases l with
    | nil => exact trivial
    | cons o r =>
      obtain ⟨ho, hrr, hrg⟩ := reg_head hl
      rw [hrg] at his
      subst his
      rw [finish_region hft ho]
      have hfin : finish H base (.inReg ops (o :: r) loc :: k) fr cs v = .go H (wrE fr.m fr.d o.dst v ⟨loc, base⟩).base (.inReg ops r (wrE fr.m fr.d o.dst v ⟨loc, base⟩).loc :: k) fr cs := by
        show (wr SR fr.m fr.d o.dst).un v ⟨loc, base⟩ _ = _
        rw [wr_eq]
      rw [hfin]
      refine ⟨_, fs, w, lo, rfl, hr, hn, Nat.le_trans hlh hhi, ⟨hB.upd (by simp), .reg ?_ ⟨hall, kk + 1, hrr, rfl⟩ hk⟩, hm, hs, hb⟩
      exact hbr.put hv (fun t ht => by rw [hB.sz]; exact dst_lt hall ho ht)
  | draw hre hD hk => exact trivial
  | @drawW ops done i o rest chk loc is k k' ho ha hd hre hD hk =>
    rw [finish_region hft ho]
    have hfin : finish H base (.inDrawW ops done i o rest chk loc :: k) fr cs v = (bif (chk.filter fun c => !((Region.before ops).getD i 0).testBit c.u).all (fun c => c.t H) then
        .go H (wrE fr.m fr.d o.dst v ⟨loc, base⟩).base (.inDraw ops (Nat.lor done (Nat.pow 2 i)) rest (chk.filter fun c => !((Region.before ops).getD i 0).testBit c.u) (wrE fr.m fr.d o.dst v ⟨loc, base⟩).loc :: k) fr cs else .er 150) := by
      show (wr SR fr.m fr.d o.dst).un v ⟨loc, base⟩ _ = _
      rw [wr_eq]
      show forceL _ _ = _
      rw [forceL_eq, force_eq]
      rfl
    rw [hfin]
    cases hck : (chk.filter fun c => !((Region.before ops).getD i 0).testBit c.u).all (fun c => c.t H) with
    | false => exact trivial
    | true =>
      have := hD.acted hhi hB.sz ho ha hd hv hck
      exact ⟨_, fs, w, lo, rfl, hr, hn, Nat.le_trans hlh hhi, ⟨hB.upd (by simp), .draw hre this hk⟩, hm, hs, hb⟩

/-! ### A call begins -/
noncomputable def putA (m d : Nat) : List AV → Nat → Tr AV → Tr AV
  | [], _, t => t
  | v :: r, i, t => if m.testBit i = true then putA m d r (i + 1) (Tr.put v (path d i) t) else putA m d r (i + 1) t
theorem putArgs_eq (m d : Nat) : ∀ (l : List AV) (i : Nat) (t : Tr AV) (k : Tr AV → SR), putArgs m d l i t k = k (putA m d l i t)
  | [], i, t, k => rfl
  | v :: r, i, t, k => by
    show (bif m.testBit i then Tr.putK v (path d i) t fun t => putArgs m d r (Nat.succ i) t k else putArgs m d r (Nat.succ i) t k) = _
    unfold putA
    cases h : m.testBit i with
    | true => simp only [cond_true, if_true, Tr.putK_eq, putArgs_eq m d r]
    | false => simp only [cond_false, if_false, putArgs_eq m d r, Bool.false_eq_true]
theorem putA_get (m d : Nat) : ∀ (l : List AV) (i : Nat) (t : Tr AV) (j : Nat), i + l.length ≤ 2 ^ d → j < 2 ^ d → m.testBit j = true → Tr.get (path d j) (putA m d l i t) = if i ≤ j ∧ j < i + l.length then l[j - i]? else Tr.get (path d j) t
  | [], i, t, j, _, _, _ => by rw [if_neg (by simp only [List.length_nil]; omega)]; rfl
  | v :: r, i, t, j, hl, hj, hm => by
    simp only [List.length_cons] at hl
    unfold putA
    have hrest : ∀ t', Tr.get (path d j) (putA m d r (i + 1) t') = if i + 1 ≤ j ∧ j < i + 1 + r.length then r[j - (i + 1)]? else Tr.get (path d j) t' := fun t' => putA_get m d r (i + 1) t' j (by omega) hj hm
    by_cases e : i = j
    · subst e
      rw [if_pos hm, hrest, if_neg (by omega), get_put_path _ _ hj hj, if_pos rfl, if_pos (by simp only [List.length_cons]; omega)]
      simp
    · have h2 : (if m.testBit i = true then putA m d r (i + 1) (Tr.put v (path d i) t) else putA m d r (i + 1) t) = putA m d r (i + 1) (if m.testBit i = true then Tr.put v (path d i) t else t) := by split <;> rfl
      have h3 : Tr.get (path d j) (if m.testBit i = true then Tr.put v (path d i) t else t) = Tr.get (path d j) t := by
        split
        · rw [get_put_path _ _ (by omega) hj, if_neg e]
        · rfl
      rw [h2, hrest, h3]
      by_cases e2 : i + 1 ≤ j ∧ j < i + 1 + r.length
      · rw [if_pos e2, if_pos (by simp only [List.length_cons]; omega)]
        have : j - i = (j - (i + 1)) + 1 := by omega
        rw [this, List.getElem?_cons_succ]
      · rw [if_neg e2, if_neg (by simp only [List.length_cons]; omega)]
theorem enter_eq {P : Program} {f : FuncId} {fn : Func} {c : Code} (hf : P.funcs[f]? = some fn) (hb : fn.body = some c) (args : Array Value) (kind : CallKind) :
    Frame.enter P f args kind = { fn := f, tmps := args ++ Array.replicate (fn.ntmps - args.size) undef, todo := [.code c], defers := [], mode := .run, kind := kind } := by
  simp [Frame.enter, hf, hb]
theorem nt_eq {f : FuncId} {fn : Func} (h : (C.K.fn f).un = some fn) : C.nt f = fn.ntmps := by simp [Cx.nt, h]

theorem enterF_sim (hK : KOK C.K) (hr : HR C B G H w) (hn : n0 ≤ H.nx) {f : FuncId} {args : List AV} {us : List Value} (ha : VRels G args us) {kind : CallKind} (hkd : kind = .normal ∨ kind = .deferred) {cs : List XFrame} {fs : List Frame} (hs : StackR C G n0 cs0 H.nx cs fs)
    (hb : ∀ m d, Bot f0 ⟨f, m, d, [], kind, none⟩ cs) : Good0 C B f0 cs0 n0 G (lone (Frame.enter C.K.P f us.toArray kind) fs w) (enterF C.K f args kind H cs) := by
  unfold enterF
  split
  · next fn hfn =>
    split
    · next c hc =>
      have hf := hK.fn f fn hfn
      cases hle : (Nat.ble args.length (Nat.pow 2 (C.K.mask f).2) && Nat.ble args.length fn.ntmps) with
      | false => exact trivial
      | true =>
        rw [cond_true, putArgs_eq, enter_eq hf hc]
        rw [Bool.and_eq_true, nble_eq, nble_eq, decide_eq_true_iff, decide_eq_true_iff] at hle
        have hle1 : args.length ≤ 2 ^ (C.K.mask f).2 := hle.1
        have hlen := ha.1
        have hok : C.okC f c := by unfold Cx.okC; rw [nt_eq hfn]; exact hK.code f fn c hfn hc
        refine ⟨_, fs, w, H.nx, rfl, hr, hn, Nat.le_refl _, ⟨⟨rfl, rfl, rfl, ?_, .nil, rfl, hkd, trivial⟩, .plain ?_ (.cons (.code c hok) .nil)⟩, rfl, hs, hb _ _⟩
        · rw [nt_eq hfn]
          simp
          omega
        · intro t ht htd a hget
          rw [putA_get _ _ _ _ _ _ (by show 0 + args.length ≤ 2 ^ (C.K.mask f).2; omega) htd ht] at hget
          split at hget
          · next hcond =>
            simp only [Nat.sub_zero] at hget
            obtain ⟨u, hu, hv⟩ := ha.get hget
            have : ((us.toArray ++ Array.replicate (fn.ntmps - us.toArray.size) undef).getD t undef) = u := by
              have hlt : t < us.length := (List.getElem?_eq_some_iff.1 hu).1
              simp [Array.getD_eq_getD_getElem?, Array.getElem?_append_left, hlt]
              have := (List.getElem?_eq_some_iff.1 hu).2
              exact this
            rw [this]; exact hv
          · have emp : Tr.get (path (C.K.mask f).2 t) (Tr.e : Tr AV) = none := by cases (path (C.K.mask f).2 t) <;> rfl
            rw [emp] at hget; cases hget
    · exact trivial
  · exact trivial

/-! ### A round of a range over a function -/
noncomputable def putPE (m d : Nat) : List (Tmp × AV) → XEnv → XEnv
  | [], en => en
  | (t, v) :: r, en => putPE m d r (wrE m d (some t) v en)
theorem putPs_eq (m d : Nat) : ∀ (l : List (Tmp × AV)) (en : XEnv) (k : XEnv → SR), putPs m d l en k = k (putPE m d l en)
  | [], en, k => rfl
  | (t, v) :: r, en, k => by
    show (wr SR m d (some t)).un v en (fun en => putPs m d r en k) = _
    rw [wr_eq, putPs_eq m d r]; rfl
theorem putPE_rel {m d : Nat} : ∀ {ps : List Tmp} {args : List AV} {us : List Value} {en : XEnv} {tmps : Array Value}, TRl G m d en tmps → VRels G args us → (∀ t ∈ ps, t < tmps.size) →
    TRl G m d (putPE m d (ps.zip args) en) ((ps.zip us).foldl (fun tmps (x : Tmp × Value) => tmps.setIfInBounds x.1 x.2) tmps) ∧ ((ps.zip us).foldl (fun tmps (x : Tmp × Value) => tmps.setIfInBounds x.1 x.2) tmps).size = tmps.size
  | [], args, us, en, tmps, h, _, _ => ⟨h, rfl⟩
  | p :: ps, [], us, en, tmps, h, ha, _ => by
    have := ha.nil_inv; subst this
    exact ⟨h, rfl⟩
  | p :: ps, a :: args, us, en, tmps, h, ha, hp => by
    obtain ⟨u, us', rfl, h1, h2⟩ := ha.cons_inv
    have := putPE_rel (ps := ps) (args := args) (us := us') (h.put (dst := some p) h1 (fun t ht => by cases ht; exact hp p List.mem_cons_self)) h2 (fun t ht => by simpa using hp t (List.mem_cons_of_mem _ ht))
    simpa [putPE] using this
theorem getLoop_inv {l : Nat} {x : XLoop} (h : getLoop H l = .ok x) : H.get l = some (.loop x) := by
  unfold getLoop at h
  split at h
  · next q => cases h; exact q
  · exact nomatch h
theorem loop_rel (hr : HR C B G H w) {l : Nat} {x : Blk} (hx : G l = some x) {xl : XLoop} (h : getLoop H l = .ok xl) : ∃ r, w.heap[x.b]? = some (.loop r) ∧ LpRel C G xl r := hr.ob l _ x (hr.id_lt hx) (getLoop_inv h) hx
theorem run_getLoop {P : Program} {b : Nat} {r : Loop} (h : w.heap[b]? = some (.loop r)) : (Instr.getLoop b).run P w = .ok r w := by
  simp [Instr.getLoop, run_getObj h (by simp)]

/-- What a round's call comes to. -/
theorem round_sim (hr : HR C B G H w) (hn : n0 ≤ H.nx) {l : Nat} {x : Blk} (hx : G l = some x) {args : List AV} {us : List Value} (ha : VRels G args us) {cs : List XFrame} {fs : List Frame} (hs : StackR C G n0 cs0 H.nx cs fs)
    (hb : ∀ fn m d, Bot f0 ⟨fn, m, d, [], .normal, some l⟩ cs) :
    (∃ s, roundF C.K H l args .normal cs = .er s) ∨ ∃ f tmps a b, (Instr.yield x.b us.toArray).run C.K.P w = .ok (.round x.b f tmps a b) w ∧ Good0 C B f0 cs0 n0 G (lone (Frame.round x.b f tmps a b .normal) fs w) (roundF C.K H l args .normal cs) := by
  unfold roundF
  split
  · next st pd fn en params assign body df hl =>
    obtain ⟨r, hh, hL⟩ := loop_rel hr hx hl
    obtain ⟨l1, l2, l3, l4, l5, l6, l7, l8, l9, l10, l11, l12, l13, l14⟩ := hL
    simp only at l1 l2 l3 l4 l5 l6 l7 l8 l9 l10 l11 l12 l13 l14
    subst l3 l4 l5 l6
    cases hsz : Nat.beq (lenN args) r.params.size with
    | false => exact .inl ⟨154, rfl⟩
    | true =>
      right
      rw [nbeq_eq, decide_eq_true_iff, lenN_eq] at hsz
      have hlen := ha.1
      obtain ⟨loc, base⟩ := en
      simp only at l8 l9
      subst l8
      have hp := putPE_rel (ps := r.params.toList) (args := args) (us := us) l9.tr ha (fun t ht => by rw [l10]; exact l13 t (by simpa using ht))
      have hfold : (r.params.zip us.toArray).foldl (fun tmps (x : Tmp × Value) => tmps.setIfInBounds x.1 x.2) r.tmps = (r.params.toList.zip us).foldl (fun tmps (x : Tmp × Value) => tmps.setIfInBounds x.1 x.2) r.tmps := by
        rw [← Array.foldl_toList]; simp
      refine ⟨r.fn, (r.params.toList.zip us).foldl (fun tmps (x : Tmp × Value) => tmps.setIfInBounds x.1 x.2) r.tmps, r.assign, r.body, ?_, ?_⟩
      · have h1 : us.toArray.size = r.params.size := by simp; omega
        rw [← hfold]
        simp [Instr.yield, run_getLoop hh]
        omega
      · rw [cond_true, putPs_eq]
        exact ⟨_, fs, w, H.nx, rfl, hr, hn, Nat.le_refl _, ⟨⟨rfl, rfl, rfl, hp.2.trans l10, .nil, rfl, .inl rfl, ⟨x, hx, rfl⟩⟩, .plain hp.1.base (.cons (.code _ l11) (.cons .beginRound (.cons (.code _ l12) .nil)))⟩, rfl, hs, hb _ _ _⟩
  · next s hl => exact .inl ⟨s, rfl⟩
end
end Go.X

/- The interpreter is right, part 22: what is asked of the machine is done; a region in the text's order. -/
namespace Go.X
open Go
section
variable {C : Cx} {B : Nat} {G : Gh} {H : Hp} {w : World} {f0 : FuncId} {cs0 : List Frame} {n0 : Nat}

/-- The machine is about to do what an operation asks. -/
def Acts (P : Program) (m : Machine) (f : Frame) (fs : List Frame) (s : Sem Next) (w : World) : Prop :=
  ∀ f' fs' w', (stepG.apply P true f fs none s w).bare = .go { frame := f', callers := fs', status := .running, dying := none } w' → step P m = .next (lone f' fs' w')

theorem todo_kind {lo hi : Nat} {base : Tr AV} {todo : List XItem} {fr : FR} {b : Bool} {f : Frame} (h : FrR C G H lo hi base todo fr b f) : (match f.todo with | .call _ true _ _ :: _ => CallKind.wrapped | _ => .normal) = .normal := by
  have hT := h.todo
  generalize f.todo = ft at hT
  cases hT with
  | plain hb hk =>
    cases hk with
    | nil => rfl
    | cons hi ht => cases hi <;> rfl
  | _ => rfl

theorem tryRecover_none {lo : Nat} {fr : FR} {f : Frame} {cs : List XFrame} {fs : List Frame} (h : FrB C G fr f) (hr : fr.roundOf = none) (hs : StackR C G n0 cs0 lo cs fs) (hb : Bot f0 fr cs) : tryRecover f fs = none := by
  rcases h.knd with hk | hk
  · unfold tryRecover; rw [h.kind, hk]
  · cases hs with
    | nil => have := hb.2.1; rw [hk] at this; cases this
    | run _ _ hm hm' _ _ => unfold tryRecover; rw [h.kind, hk]; simp [hm']
    | ret _ _ hm hm' _ _ _ => unfold tryRecover; rw [h.kind, hk]; simp [hm']

theorem doNx_sim (hK : KOK C.K) (hr : HR C B G H w) {lo : Nat} (hn : n0 ≤ lo) (hlo : lo ≤ H.nx) {base : Tr AV} {todo : List XItem} {fr : FR} {cs : List XFrame} {f : Frame} {fs : List Frame} (h : FrR C G H lo H.nx base todo fr false f) (hm : f.mode = .run) (hs : StackR C G n0 cs0 lo cs fs) (hb : Bot f0 fr cs)
    {s : Sem Next} {nx : Nx} (hx : NxR C B G H w C.K.P s nx) {m : Machine} (hst : (∀ dd H', nx = .defer dd H' → fr.roundOf = none) → Acts C.K.P m f fs s w) : Reach C B f0 cs0 n0 G w m (doNx C.K nx base todo fr cs) := by
  have hval : ∀ {v : AV} {H' : Hp}, NxVal C B G H w C.K.P s v H' → Acts C.K.P m f fs s w → Reach0 C B f0 cs0 n0 G w m (finish H' base todo fr cs v) := by
    rintro v H' ⟨nn, u, w', G', hrun, hor, he, hr', hv, hwk, hnx⟩ ha
    have hstep : step C.K.P m = .next (lone (f.finish u) fs w') := ha _ _ _ (by rcases hor with rfl | ⟨rfl, rfl⟩ <;> simp [stepG.apply, hrun])
    exact ⟨G', _, .one hstep, Gh.ext_le he (Nat.le_trans hn hlo), hwk, finish_sim hr' hn hlo hnx (h.mono he) hm (hs.mono (Gh.ext_le he hlo)) hb hv⟩
  cases nx with
  | val v H' => exact .of (hval hx (hst (fun _ _ e => by cases e)))
  | branch l =>
    obtain ⟨x, hxl, hx⟩ := hx
    exact ⟨x, hxl, hval hx (hst (fun _ _ e => by cases e))⟩
  | enter g args H' =>
    obtain ⟨rfl, us, hrun, ha⟩ := hx
    have hkd := todo_kind h
    have hstep : step C.K.P m = .next (lone (Frame.enter C.K.P g us.toArray .normal) (f :: fs) w) := hst (fun _ _ e => by cases e) _ _ _ (by simp [stepG.apply, hrun]; exact congrArg _ hkd)
    have e0 : doNx C.K (.enter g args H') base todo fr cs = bif (C.K.memo.testBit g || C.K.J.testBit g) then .jump g args H' base todo fr cs else enterF C.K g args .normal H' (⟨base, todo, fr, .run⟩ :: cs) := rfl
    rw [e0]
    cases C.K.memo.testBit g || C.K.J.testBit g with
    | true => exact .of ⟨G, _, .one hstep, Gh.ext_refl _ _, WK.refl _ _, f, fs, w, lo, us, rfl, hr, hn, hlo, ha, h, hm, hs, hb⟩
    | false => exact .of ⟨G, _, .one hstep, Gh.ext_refl _ _, WK.refl _ _, enterF_sim hK hr (Nat.le_trans hn hlo) ha (.inl rfl) (.run (x := ⟨base, todo, fr, .run⟩) hn hlo rfl hm h hs) (fun _ _ => hb)⟩
  | round l args H' =>
    obtain ⟨rfl, x, us, hxl, hrun, ha⟩ := hx
    have e0 : doNx C.K (.round l args H') base todo fr cs = roundF C.K H' l args .normal (⟨base, todo, fr, .run⟩ :: cs) := rfl
    rw [e0]
    rcases round_sim hr (Nat.le_trans hn hlo) hxl ha (.run (x := ⟨base, todo, fr, .run⟩) hn hlo rfl hm h hs) (fun _ _ _ => hb) with ⟨s', hs'⟩ | ⟨g, tmps, a, b, hy, hgood⟩
    · rw [hs']; trivial
    · have hstep : step C.K.P m = .next (lone (Frame.round x.b g tmps a b .normal) (f :: fs) w) := hst (fun _ _ e => by cases e) _ _ _ (by rw [hy] at hrun; simp [stepG.apply, hrun])
      exact .of ⟨G, _, .one hstep, Gh.ext_refl _ _, WK.refl _ _, hgood⟩
  | «defer» dd H' =>
    obtain ⟨rfl, d', hrun, hdd⟩ := hx
    obtain ⟨fn, mm, dp, defers, kind, ro⟩ := fr
    cases ro with
    | some l => exact trivial
    | none =>
      have hstep : step C.K.P m = .next (lone (({ f with defers := d' :: f.defers } : Frame).finish undef) fs w) := hst (fun _ _ _ => rfl) _ _ _ (by simp [stepG.apply, hrun])
      refine .of ⟨G, _, .one hstep, Gh.ext_refl _ _, WK.refl _ _, ?_⟩
      refine finish_sim (f := { f with defers := d' :: f.defers }) (fr := ⟨fn, mm, dp, dd :: defers, kind, none⟩) hr hn hlo (Nat.le_refl _) ⟨⟨h.b.fn, h.b.m, h.b.d, h.b.sz, .cons hdd h.b.defers, h.b.kind, h.b.knd, h.b.round⟩, h.todo⟩ hm hs ?_ (.ofTup (.nil G))
      cases cs <;> exact hb
  | recover H' =>
    obtain ⟨rfl, hrun⟩ := hx
    obtain ⟨fn, mm, dp, defers, kind, ro⟩ := fr
    cases ro with
    | some l => exact trivial
    | none =>
      have hro : f.roundOf = none := by
        have := h.b.round
        cases hq : f.roundOf with
        | none => rfl
        | some b => rw [hq] at this; exact this.elim
      have hnone := tryRecover_none h.b rfl hs hb
      have hstep : step C.K.P m = .next (lone (f.finish .nilIface) fs w) := hst (fun _ _ e => by cases e) _ _ _ (by simp [stepG.apply, hrun, hro, hnone])
      exact .of ⟨G, _, .one hstep, Gh.ext_refl _ _, WK.refl _ _, finish_sim hr hn hlo (Nat.le_refl _) h hm hs hb .nili⟩

/-! ### Steps of a frame -/
theorem stepG_run {P : Program} {f : Frame} {fs : List Frame} (hm : f.mode = .run) : stepG P true { frame := f, callers := fs, status := .running, dying := none } w = stepG.exec P true true f fs none w := by
  simp [stepG, hm]
theorem step_end_region {P : Program} {f : Frame} {fs : List Frame} {ops : Array Oper} {k : List Item} (hm : f.mode = .run) (ht : f.todo = .inRegion ops [] :: k) : step P (lone f fs w) = .next (lone { f with todo := k } fs w) :=
  step_lone_go (by rw [stepG_run hm]; simp [stepG.exec, ht])
theorem step_skip_op {P : Program} {f : Frame} {fs : List Frame} {ops : Array Oper} {i : Nat} {is : List Nat} {k : List Item} {o : Oper} (hm : f.mode = .run) (ht : f.todo = .inRegion ops (i :: is) :: k) (ho : ops[i]? = some o)
    (hw : Region.wanted o (yielded ops f.tmps) = false) : step P (lone f fs w) = .next (lone (f.finish undef) fs w) :=
  step_lone_go (by rw [stepG_run hm]; simp [stepG.exec, ht, ho, hw])
theorem step_op {P : Program} {f : Frame} {fs : List Frame} {ops : Array Oper} {i : Nat} {is : List Nat} {k : List Item} {o : Oper} (hm : f.mode = .run) (ht : f.todo = .inRegion ops (i :: is) :: k) (ho : ops[i]? = some o)
    (hw : Region.wanted o (yielded ops f.tmps) = true) (hd : f.roundOf = none ∨ ∀ c, o.op ≠ .defer c) : Acts P (lone f fs w) f fs (execOp f.eval o) w := by
  intro f' fs' w' h
  refine step_lone_go ?_
  rw [stepG_run hm]
  have hop : f.oper? = some o := by simp [Frame.oper?, ht, ho]
  have : stepG.exec P true true f fs none w = stepG.oper P true f fs none w := by simp [stepG.exec, ht, ho, hw]
  rw [this]
  have : stepG.oper P true f fs none w = stepG.apply P true f fs none (execOp f.eval o) w := by
    unfold stepG.oper
    rw [hop]
    simp only
    split
    · next l c hro hoc =>
      rcases hd with hd | hd
      · rw [hd] at hro; cases hro
      · exact absurd hoc (hd _)
    · rfl
  rw [this]
  exact h

/-- Is an operation wanted? -/
theorem wanted_sound {ops : Array Oper} {m d : Nat} {o : Oper} {en : XEnv} {b : Bool} (h : wantedX m d ops o en = some b) {tmps : Array Value} {nt : Nat} (hall : ops.toList.all (dstOK nt) = true) (hsz : tmps.size = nt)
    (hx : ∀ j w' t, o.guard = some (j, w') → (ops[j]?).bind (·.dst) = some t → VRel G (rdT m d t en) (tmps.getD t undef)) : Region.wanted o (yielded ops tmps) = b := by
  unfold wantedX at h
  unfold Region.wanted
  split at h
  · next hg => cases h; rw [hg]
  · next j w' hg =>
    rw [hg]
    split at h
    · next t ht =>
      have hv := hx j w' t hg ht
      rw [rd_tmp] at h
      have hlt : t < tmps.size := by
        cases hoj : ops[j]? with
        | none => rw [hoj] at ht; cases ht
        | some p => rw [hoj] at ht; rw [hsz]; exact dst_lt hall hoj ht
      simp only [yielded, ht, Option.bind_some]
      have hget : tmps[t]? = some (tmps.getD t undef) := by simp [hlt, Array.getD_eq_getD_getElem?]
      rw [hget]
      generalize tmps.getD t undef = u at hv
      split at h
      · next c hq =>
        rw [hq] at hv
        cases hv
        cases h
        rw [eqB_eq]
        cases c <;> cases w' <;> rfl
      · next hq =>
        rw [hq] at hv
        obtain ⟨c, rfl, _⟩ := hv.tup_inv
        cases h
        rfl
      · cases h
    · cases h

theorem opK_val_p {P : Program} {K : Kn} {m d : Nat} {o : Oper} {f : XEnv → E AV} (h : opK P K m d o = .p f) : (opK P K m d o).val? = some fun _ => f := by rw [h]; rfl
theorem opK_val_r {P : Program} {K : Kn} {m d : Nat} {o : Oper} {f : Hp → XEnv → E AV} (h : opK P K m d o = .r f) : (opK P K m d o).val? = some f := by rw [h]; rfl

/-- A new object, here and there. -/
theorem newK_inv {R : Type} {H : Hp} {o : XObj} {k : Nat → Hp → R} {e : Nat → R} : (H.nx < 2 ^ dH ∧ newK H o k e = k H.nx (H.add o)) ∨ newK H o k e = e 1 := by
  obtain ⟨h, nx⟩ := H
  have e0 : newK ⟨h, nx⟩ o k e = Bool.rec (motive := fun _ => R) (e 1) (force nx fun nx => Tr.putK o (path dH nx) h fun h => force (Nat.succ nx) fun nx1 => k nx ⟨h, nx1⟩) (Nat.blt nx (Nat.pow 2 dH)) := rfl
  rw [e0]
  cases hb : Nat.blt nx (Nat.pow 2 dH) with
  | false => exact .inr rfl
  | true =>
    rw [nblt_eq, decide_eq_true_iff] at hb
    refine .inl ⟨hb, ?_⟩
    simp only [force_eq, Tr.putK_eq]
    rfl
theorem made_now (hr : HR C B G H w) (hnx : H.nx < 2 ^ dH) {s : Sem Value} {ob : XObj} {g : Nat → AV} (h : Made C G C.K.P s ob g) :
    NxVal C B G H w C.K.P (do pure (.value (← s))) (g H.nx) (H.add ob) := by
  obtain ⟨o, u, k, sz, h1, h2⟩ := h w
  have h3 := h2 (G.add H.nx ⟨w.heap.size, 0, k, sz⟩) H.nx (Gh.le_add _ hr.fresh) (Gh.add_same _ _ _)
  obtain ⟨q1, q2, q3⟩ := hr.alloc hnx (o := ob) (ob := o) (x := ⟨w.heap.size, 0, k, sz⟩) rfl h3.2
  exact ⟨.value u, u, _, _, by simp [h1], .inl rfl, Gh.ext_add _ hr.fresh, q1, h3.1, q3, Nat.le_succ _⟩

theorem opK_defer {P : Program} {K : Kn} {m d : Nat} {o : Oper} {c : Call} (h : o.op = .defer c) : opK P K m d o = .a fun H en => (resolveT m d c o.type en).b fun r => .ok (.defer ⟨r.1, r.2⟩ H) := by
  obtain ⟨dst, op, ty, pos, after, guard⟩ := o
  cases h
  rfl
theorem acts_of {m d : Nat} {fr : FR} {f : Frame} {fs : List Frame} {ops : Array Oper} {i : Nat} {is : List Nat} {k : List Item} {o : Oper} (hB : FrB C G fr f) (hm : f.mode = .run) (ht : f.todo = .inRegion ops (i :: is) :: k) (ho : ops[i]? = some o)
    (hw : Region.wanted o (yielded ops f.tmps) = true) {g : Hp → XEnv → E Nx} (hg : opK C.K.P C.K m d o = .a g) {en : XEnv} {nx : Nx} (hq : g H en = .ok nx) :
    (∀ dd H', nx = .defer dd H' → fr.roundOf = none) → Acts C.K.P (lone f fs w) f fs (execOp f.eval o) w := by
  intro hdf
  refine step_op hm ht ho hw ?_
  by_cases hd : ∃ c, o.op = .defer c
  · obtain ⟨c, hc⟩ := hd
    rw [opK_defer hc] at hg
    cases hg
    obtain ⟨r, _, h2⟩ := E.b_inv (show ((resolveT m d c o.type en).b fun r => .ok (.defer ⟨r.1, r.2⟩ H) : E Nx) = .ok nx from hq)
    cases h2
    have h1 := hdf _ _ rfl
    have h2 := hB.round
    rw [h1] at h2
    left
    cases hro : f.roundOf with
    | none => rfl
    | some b => rw [hro] at h2; exact h2.elim
  · exact .inr fun c hc => hd ⟨c, hc⟩
theorem not_defer {P : Program} {K : Kn} {m d : Nat} {o : Oper} (h : ∀ f, opK P K m d o ≠ .a f) (c : Call) : o.op ≠ .defer c := fun hc => h _ (opK_defer hc)

theorem runReg_sim (hK : KOK C.K) {ops : Array Oper} {k : List XItem} {k' : List Item} {fr : FR} {cs : List XFrame} : ∀ (l : List Oper) (G : Gh) (H : Hp) (w : World) (en : XEnv) (f : Frame) (fs : List Frame) (is : List Nat) (lo : Nat), HR C B G H w → n0 ≤ lo → lo ≤ H.nx → FrB C G fr f → f.todo = .inRegion ops is :: k' →
    RegR C fr.fn ops l is → TRl G fr.m fr.d en f.tmps → ItsR C fr.fn G k k' → f.mode = .run → StackR C G n0 cs0 lo cs fs → Bot f0 fr cs → Reach C B f0 cs0 n0 G w (lone f fs w) (runReg C.K ops fr.m fr.d k fr cs l H en)
  | [], G, H, w, en, f, fs, is, lo, hr, hn, hlo, hB, ht, hR, hT, hk, hm, hs, hb => by
    obtain ⟨hall, kk, hl, his⟩ := hR
    have hle : ops.toList.length ≤ kk := List.drop_eq_nil_iff.1 hl.symm
    have : is = [] := by rw [his]; exact List.drop_eq_nil_of_le (by simpa using hle)
    subst this
    have hstep := step_end_region (P := C.K.P) (fs := fs) (w := w) hm ht
    obtain ⟨loc, base⟩ := en
    exact .of ⟨G, _, .one hstep, Gh.ext_refl _ _, WK.refl _ _, _, fs, w, lo, rfl, hr, hn, hlo, ⟨hB.todo, .plain hT.base hk⟩, hm, hs, hb⟩
  | o :: r, G, H, w, en, f, fs, is, lo, hr, hn, hlo, hB, ht, hR, hT, hk, hm, hs, hb => by
    obtain ⟨hall, kk, hl, his⟩ := hR
    obtain ⟨ho, hrr, hrg⟩ := reg_head hl
    rw [hrg] at his
    subst his
    have hdst : ∀ t, o.dst = some t → t < f.tmps.size := fun t hd => by rw [hB.sz]; exact dst_lt hall ho hd
    have hops : ∀ x ∈ o.op.operands.toList, OpR G fr.m fr.d en f.eval x := fun x _ => by rw [eval_eq]; exact rd_tr hr hT x
    -- a value, and on
    have next : ∀ {v : AV} {u : Value} {G' : Gh} {H' : Hp} {w' : World}, step C.K.P (lone f fs w) = .next (lone (f.finish u) fs w') → Gh.ext H.nx G G' → HR C B G' H' w' → VRel G' v u → WK B w w' → H.nx ≤ H'.nx →
        Reach C B f0 cs0 n0 G w (lone f fs w) (runReg C.K ops fr.m fr.d k fr cs r H' (wrE fr.m fr.d o.dst v en)) := by
      intro v u G' H' w' hstep he hr' hv hwk hnx
      have hf := finish_region ht ho u
      rw [hf] at hstep
      have := runReg_sim hK r G' H' w' (wrE fr.m fr.d o.dst v en) { f with tmps := putT' f.tmps o.dst u, todo := .inRegion ops ((List.range ops.size).drop (kk + 1)) :: k' } fs _ lo hr' hn (Nat.le_trans hlo hnx) ((hB.mono he.1).upd (by simp)) rfl ⟨hall, kk + 1, hrr, rfl⟩
        ((hT.mono he.1).put hv hdst) (hk.mono he.1) hm (hs.mono (Gh.ext_le he hlo)) hb
      exact this.pre (.one hstep) (Gh.ext_le he (Nat.le_trans hn hlo)) hwk
    have e0 : runReg C.K ops fr.m fr.d k fr cs (o :: r) H en = (match wantedX fr.m fr.d ops o en with
      | some true => match opK C.K.P C.K fr.m fr.d o with
        | .p f => E.rec (motive := fun _ => SR) (fun v => (wr SR fr.m fr.d o.dst).un v en (runReg C.K ops fr.m fr.d k fr cs r H)) .er (f en)
        | .r f => E.rec (motive := fun _ => SR) (fun v => (wr SR fr.m fr.d o.dst).un v en (runReg C.K ops fr.m fr.d k fr cs r H)) .er (f H en)
        | .m f => E.rec (motive := fun _ => SR) (fun x => Prod.rec (motive := fun _ => SR) (fun ob g => newK H ob (fun id H => (wr SR fr.m fr.d o.dst).un (g id) en (runReg C.K ops fr.m fr.d k fr cs r H)) .er) x) .er (f en)
        | .a f => E.rec (motive := fun _ => SR) (fun n => match n with
            | .val v H => (wr SR fr.m fr.d o.dst).un v en (runReg C.K ops fr.m fr.d k fr cs r H)
            | n => XEnv.rec (motive := fun _ => SR) (fun loc base => doNx C.K n base (.inReg ops (o :: r) loc :: k) fr cs) en) .er (f H en)
        | .no => .er 157
      | some false => (wr SR fr.m fr.d o.dst).un (.tup []) en (runReg C.K ops fr.m fr.d k fr cs r H)
      | none => .er 158) := rfl
    rw [e0]
    have hwant : ∀ b, wantedX fr.m fr.d ops o en = some b → Region.wanted o (yielded ops f.tmps) = b := fun b hb => wanted_sound hb hall hB.sz (fun j w' t _ _ => hT t)
    split
    · next hw =>
      have hw' := hwant true hw
      have hact : (∀ c, o.op ≠ .defer c) → Acts C.K.P (lone f fs w) f fs (execOp f.eval o) w := fun hd => step_op hm ht ho hw' (.inr hd)
      split
      · next g hg =>
        cases hq : g en with
        | er s => trivial
        | ok v =>
          obtain ⟨u, h1, h2⟩ := op_p (P := C.K.P) (K := C.K) (opK_val_p hg) hr hq hops
          have hnd : ∀ c, o.op ≠ .defer c := not_defer (P := C.K.P) (K := C.K) (m := fr.m) (d := fr.d) fun f e => by rw [hg] at e; cases e
          have hstep : step C.K.P (lone f fs w) = .next (lone (f.finish u) fs w) := hact hnd _ _ _ (by simp [stepG.apply, h1])
          show Reach _ _ _ _ _ _ _ _ ((wr SR fr.m fr.d o.dst).un v en (runReg C.K ops fr.m fr.d k fr cs r H))
          rw [wr_eq]
          exact next hstep (Gh.ext_refl _ _) hr h2 (WK.refl _ _) (Nat.le_refl _)
      · next g hg =>
        cases hq : g H en with
        | er s => trivial
        | ok v =>
          obtain ⟨u, h1, h2⟩ := op_p (P := C.K.P) (K := C.K) (opK_val_r hg) hr hq hops
          have hnd : ∀ c, o.op ≠ .defer c := not_defer (P := C.K.P) (K := C.K) (m := fr.m) (d := fr.d) fun f e => by rw [hg] at e; cases e
          have hstep : step C.K.P (lone f fs w) = .next (lone (f.finish u) fs w) := hact hnd _ _ _ (by simp [stepG.apply, h1])
          show Reach _ _ _ _ _ _ _ _ ((wr SR fr.m fr.d o.dst).un v en (runReg C.K ops fr.m fr.d k fr cs r H))
          rw [wr_eq]
          exact next hstep (Gh.ext_refl _ _) hr h2 (WK.refl _ _) (Nat.le_refl _)
      · next g hg =>
        cases hq : g en with
        | er s => trivial
        | ok x =>
          obtain ⟨ob, gg⟩ := x
          obtain ⟨s, hs1, hmade⟩ := op_m (C := C) (G := G) (P := C.K.P) (K := C.K) (by rw [hg]; rfl) hq hops
          have hnd : ∀ c, o.op ≠ .defer c := not_defer (P := C.K.P) (K := C.K) (m := fr.m) (d := fr.d) fun f e => by rw [hg] at e; cases e
          show Reach _ _ _ _ _ _ _ _ (newK H ob (fun id H => (wr SR fr.m fr.d o.dst).un (gg id) en (runReg C.K ops fr.m fr.d k fr cs r H)) .er)
          rcases newK_inv (H := H) (o := ob) (k := fun id H => (wr SR fr.m fr.d o.dst).un (gg id) en (runReg C.K ops fr.m fr.d k fr cs r H)) (e := SR.er) with ⟨hnx, e⟩ | e
          · rw [e, wr_eq]
            obtain ⟨nn, u, w', G', hrun, hor, he, hr', hv, hwk, hnx'⟩ := made_now hr hnx hmade
            have hstep : step C.K.P (lone f fs w) = .next (lone (f.finish u) fs w') := hact hnd _ _ _ (by rw [hs1]; rcases hor with rfl | ⟨rfl, rfl⟩ <;> simp only [stepG.apply, Sem.runT_eq, hrun] <;> simp)
            exact next hstep he hr' hv hwk hnx'
          · rw [e]; trivial
      · next g hg =>
        cases hq : g H en with
        | er s => trivial
        | ok nx =>
          have hx : NxR C B G H w C.K.P (execOp f.eval o) nx := op_a hK (by rw [hg]; rfl) hr hq hops
          have hac := acts_of (fs := fs) (w := w) hB hm ht ho hw' hg hq
          have hdo : ∀ loc base, en = ⟨loc, base⟩ → Reach C B f0 cs0 n0 G w (lone f fs w) (doNx C.K nx base (.inReg ops (o :: r) loc :: k) fr cs) := by
            intro loc base he
            subst he
            exact doNx_sim hK hr hn hlo ⟨hB, by rw [ht]; exact .reg hT ⟨hall, kk, hl, hrg.symm⟩ hk⟩ hm hs hb hx hac
          obtain ⟨loc, base⟩ := en
          cases nx with
          | val v H' =>
            obtain ⟨nn, u, w', G', hrun, hor, he, hr', hv, hwk, hnx'⟩ := hx
            have hstep : step C.K.P (lone f fs w) = .next (lone (f.finish u) fs w') := hac (fun _ _ e => by cases e) _ _ _ (by rcases hor with rfl | ⟨rfl, rfl⟩ <;> simp [stepG.apply, hrun])
            show Reach _ _ _ _ _ _ _ _ ((wr SR fr.m fr.d o.dst).un v ⟨loc, base⟩ (runReg C.K ops fr.m fr.d k fr cs r H'))
            rw [wr_eq]
            exact next hstep he hr' hv hwk hnx'
          | _ => exact hdo loc base rfl
      · trivial
    · next hw =>
      have hw' := hwant false hw
      rw [wr_eq]
      exact next (step_skip_op hm ht ho hw') (Gh.ext_refl _ _) hr (.ofTup (.nil G)) (WK.refl _ _) (Nat.le_refl _)
    · trivial
end
end Go.X

/- The interpreter is right, part 23: regions that draw their order. -/
namespace Go.X
open Go
section
variable {C : Cx} {B : Nat} {G : Gh} {H : Hp} {w : World} {f0 : FuncId} {cs0 : List Frame} {n0 : Nat}

/-! ### What is read stays as it is where memory grows -/
def Hp.le (H H' : Hp) : Prop := ∀ id o, H.get id = some o → H'.get id = some o
theorem arr_mono {H' : Hp} (hle : H.le H') {id : Nat} {a : Arr} (h : H.arr id = .ok a) : H'.arr id = .ok a := by
  have := hle _ _ (arr_inv h)
  unfold Hp.arr
  rw [this]
theorem map_mono {H' : Hp} (hle : H.le H') {id : Nat} {m : List XEnt × Nat} (h : H.map id = .ok m) : H'.map id = .ok m := by
  have := hle _ _ (map_inv h)
  unfold Hp.map
  rw [this]
theorem cellsOf_mono {H' : Hp} (hle : H.le H') {k : Nat} {x : AV} {c : Nat × List AV} (h : cellsOf H k x = .ok c) : cellsOf H' k x = .ok c := by
  cases x with
  | sl id off len cap =>
    obtain ⟨a, ha, h⟩ := E.b_inv (show ((H.arr id).b fun a => (a.sub off (len * k)).b fun cs => .ok (len, cs)) = .ok c from h)
    show ((H'.arr id).b fun a => (a.sub off (len * k)).b fun cs => .ok (len, cs)) = .ok c
    rw [arr_mono hle ha]; exact h
  | _ => exact h
theorem b_mono {α β : Type} {x x' : E α} {f f' : α → E β} {r : β} (h : x.b f = .ok r) (hx : ∀ a, x = .ok a → x' = .ok a) (hf : ∀ a, f a = .ok r → f' a = .ok r) : x'.b f' = .ok r := by
  obtain ⟨a, h1, h2⟩ := E.b_inv h
  rw [hx a h1]; exact hf a h2
theorem load_mono {P : Program} {H' : Hp} (hle : H.le H') {t : TypeId} {p v : AV} (h : load P t H p = .ok v) : load P t H' p = .ok v := by
  cases p with
  | ptr id off => exact b_mono (show ((H.arr id).b fun a => (a.sub off (szOf P t)).b (mk P t)) = .ok v from h) (fun a => arr_mono hle) (fun _ q => q)
  | _ => exact h
theorem slc_mono {P : Program} {H' : Hp} (hle : H.le H') {t : TypeId} {x v : AV} {lo hi mx : Option AV} (h : slc P t H x lo hi mx = .ok v) : slc P t H' x lo hi mx = .ok v := by
  refine b_mono h (fun _ q => q) fun u h => ?_
  split at h
  · exact h
  · obtain ⟨h1, h2⟩ := E.whn_inv h
    refine (whn_ok h1).trans ?_
    exact b_mono h2 (fun a => arr_mono hle) (fun _ q => q)
  · exact nomatch h
theorem lookup_mono {P : Program} {H' : Hp} (hle : H.le H') {t : TypeId} {ok : Bool} {x k v : AV} (h : lookup P t ok H x k = .ok v) : lookup P t ok H' x k = .ok v := by
  refine b_mono h (fun _ q => q) fun u h => ?_
  split at h
  · refine b_mono h (fun _ q => q) fun b h => ?_
    refine b_mono h (fun m hm => ?_) (fun _ q => q)
    cases x with
    | mref id => exact map_mono hle hm
    | _ => exact nomatch hm
  · exact nomatch h
theorem lenB_mono {P : Program} {H' : Hp} (hle : H.le H') {t : TypeId} {x v : AV} (h : lenB P t H x = .ok v) : lenB P t H' x = .ok v := by
  refine b_mono h (fun _ q => q) fun u h => ?_
  split at h
  · exact h
  · exact h
  · exact h
  · exact b_mono h (fun a => map_mono hle) (fun _ q => q)
  · exact nomatch h
theorem conv_mono {P : Program} {H' : Hp} (hle : H.le H') {s d : TypeId} {x v : AV} (h : conv P H s d x = .ok v) : conv P H' s d x = .ok v := by
  refine b_mono h (fun _ q => q) fun u h => ?_
  refine b_mono h (fun _ q => q) fun u' h => ?_
  split at h
  · exact h
  · exact h
  · refine b_mono h (fun _ q => q) fun u'' h => ?_
    split at h
    · split at h
      · exact nomatch h
      · exact b_mono h (fun c => cellsOf_mono hle) (fun _ q => q)
    · exact nomatch h
  · exact b_mono h (fun a => arr_mono hle) (fun _ q => q)
  · exact b_mono h (fun a => arr_mono hle) (fun _ q => q)
  · exact nomatch h
def OpK.rd? : OpK → Option (Hp → XEnv → E AV)
  | .r f => some f
  | _ => none
theorem r_mono {P : Program} {K : Kn} {m d : Nat} {o : Oper} {f : Hp → XEnv → E AV} (h : (opK P K m d o).rd? = some f) {H' : Hp} (hle : H.le H') {en : XEnv} {v : AV} (hf : f H en = .ok v) : f H' en = .ok v := by
  obtain ⟨dst, op, ty, pos, after, guard⟩ := o
  cases op with
  | load t a => obtain rfl := Option.some.inj h; exact load_mono hle hf
  | convert s t x => obtain rfl := Option.some.inj h; exact conv_mono hle hf
  | slice t x lo hi mx => obtain rfl := Option.some.inj h; exact slc_mono hle hf
  | lookup t x i ok => obtain rfl := Option.some.inj h; exact lookup_mono hle hf
  | fieldAddr s x fi =>
    exfalso
    have h : (match P.underlying s with
      | some (.struct fs) => match fs[fi]? with
        | some fd => match P.info? fd.type with
          | some i => if i.size = 0 then .no else .p fun en => match (rd m d x).un en with | .ptr id off => force (off + fd.offset) fun q => .ok (.ptr id q) | _ => .er 114
          | none => .no
        | none => .no
      | _ => .no : OpK).rd? = some f := h
    split at h
    · split at h
      · split at h
        · split at h <;> cases h
        · cases h
      · cases h
    · cases h
  | field s x fi =>
    exfalso
    have h : (match P.underlying s with
      | some (.struct fs) => match fs[fi]? with
        | some fd => .p fun en => match (rd m d x).un en with | .agg cs => part P fd.type cs fd.offset | _ => .er 115
        | none => .no
      | _ => .no : OpK).rd? = some f := h
    split at h
    · split at h <;> cases h
    · cases h
  | makeMap t r => cases r <;> cases h
  | buildSlice t n ps => exact absurd h (by simp only [opK]; split <;> simp [OpK.rd?])
  | makeSlice t n ps => exact absurd h (by simp only [opK]; split <;> simp [OpK.rd?])
  | mapUpdate t a b c => exact absurd h (by simp only [opK]; split <;> simp [OpK.rd?])
  | insert t a b c => exact absurd h (by simp only [opK]; split <;> simp [OpK.rd?])
  | mapEntry t a b => exact absurd h (by simp only [opK]; split <;> simp [OpK.rd?])
  | call c =>
    obtain ⟨callee, args, ats⟩ := c
    cases callee with
    | value x => cases h
    | invoke x n => cases h
    | builtin b =>
      cases b with
      | len =>
        have h : (match ats.toList, args.toList with | [t], [x] => .r fun H en => lenB P t H ((rd m d x).un en) | _, _ => .no : OpK).rd? = some f := h
        split at h
        · obtain rfl := Option.some.inj h; exact lenB_mono hle hf
        · cases h
      | _ => cases h
  | _ => cases h

/-- What acts. -/
theorem act_opK {P : Program} {K : Kn} {m d : Nat} {o : Oper} : ((∃ f, opK P K m d o = .a f) → actOp o.op = true) ∧ (actOp o.op = true → (∃ f, opK P K m d o = .a f) ∨ opK P K m d o = .no) := by
  obtain ⟨dst, op, ty, pos, after, guard⟩ := o
  cases op with
  | range t x => exact ⟨fun _ => rfl, fun _ => .inl ⟨_, rfl⟩⟩
  | store t a x => exact ⟨fun _ => rfl, fun _ => .inl ⟨_, rfl⟩⟩
  | entryStore t a b c => exact ⟨fun _ => rfl, fun _ => .inl ⟨_, rfl⟩⟩
  | next a b => exact ⟨fun _ => rfl, fun _ => .inl ⟨_, rfl⟩⟩
  | entry a => exact ⟨fun _ => rfl, fun _ => .inl ⟨_, rfl⟩⟩
  | defer a => exact ⟨fun _ => rfl, fun _ => .inl ⟨_, rfl⟩⟩
  | mapUpdate t a b c => exact ⟨fun _ => rfl, fun _ => by simp only [opK]; split <;> simp⟩
  | insert t a b c => exact ⟨fun _ => rfl, fun _ => by simp only [opK]; split <;> simp⟩
  | mapEntry t a b => exact ⟨fun _ => rfl, fun _ => by simp only [opK]; split <;> simp⟩
  | call c =>
    obtain ⟨callee, args, ats⟩ := c
    cases callee with
    | value x => exact ⟨fun _ => rfl, fun _ => .inl ⟨_, rfl⟩⟩
    | invoke x n => exact ⟨fun _ => rfl, fun _ => .inl ⟨_, rfl⟩⟩
    | builtin b =>
      cases b with
      | len =>
        refine ⟨fun ⟨f, h⟩ => ?_, fun h => by cases h⟩
        have h : (match ats.toList, args.toList with | [t], [x] => .r fun H en => lenB P t H ((rd m d x).un en) | _, _ => .no : OpK) = .a f := h
        split at h <;> cases h
      | min => exact ⟨fun ⟨f, h⟩ => (by cases h), fun h => by cases h⟩
      | max => exact ⟨fun ⟨f, h⟩ => (by cases h), fun h => by cases h⟩
      | complex => exact ⟨fun ⟨f, h⟩ => (by cases h), fun h => by cases h⟩
      | real => exact ⟨fun ⟨f, h⟩ => (by cases h), fun h => by cases h⟩
      | imag => exact ⟨fun ⟨f, h⟩ => (by cases h), fun h => by cases h⟩
      | _ => exact ⟨fun _ => rfl, fun _ => .inl ⟨_, rfl⟩⟩
  | fieldAddr s x fi =>
    refine ⟨fun ⟨f, h⟩ => ?_, fun h => by cases h⟩
    have h : (match P.underlying s with
      | some (.struct fs) => match fs[fi]? with
        | some fd => match P.info? fd.type with
          | some i => if i.size = 0 then .no else .p fun en => match (rd m d x).un en with | .ptr id off => force (off + fd.offset) fun q => .ok (.ptr id q) | _ => .er 114
          | none => .no
        | none => .no
      | _ => .no : OpK) = .a f := h
    split at h
    · split at h
      · split at h
        · split at h <;> cases h
        · cases h
      · cases h
    · cases h
  | field s x fi =>
    refine ⟨fun ⟨f, h⟩ => ?_, fun h => by cases h⟩
    have h : (match P.underlying s with
      | some (.struct fs) => match fs[fi]? with
        | some fd => .p fun en => match (rd m d x).un en with | .agg cs => part P fd.type cs fd.offset | _ => .er 115
        | none => .no
      | _ => .no : OpK) = .a f := h
    split at h
    · split at h <;> cases h
    · cases h
  | makeMap t r => cases r <;> exact ⟨fun ⟨f, h⟩ => (by cases h), fun h => by cases h⟩
  | buildSlice t n ps =>
    refine ⟨fun ⟨f, h⟩ => ?_, fun h => by cases h⟩
    simp only [opK] at h; split at h <;> cases h
  | makeSlice t n ps =>
    refine ⟨fun ⟨f, h⟩ => ?_, fun h => by cases h⟩
    simp only [opK] at h; split at h <;> cases h
  | _ => exact ⟨fun ⟨f, h⟩ => (by cases h), fun h => by cases h⟩

/-! ### Who is ready -/
theorem needs_bit {o : Oper} {j : Nat} : (needs o).testBit j = true ↔ j ∈ directs o := by
  unfold needs directs
  induction o.after.toList with
  | nil => simp
  | cons e l ih =>
    simp only [List.foldr_cons, List.filter_cons]
    cases hb : Region.binds .any e with
    | true =>
      simp only [cond_true, if_true, List.map_cons, List.mem_cons]
      rw [← ih]
      show ((2 ^ e.on ||| _).testBit j = true) ↔ _
      rw [Nat.testBit_or, Nat.testBit_two_pow, Bool.or_eq_true, decide_eq_true_iff]
      exact or_congr_left eq_comm
    | false => simpa only [cond_false, Bool.false_eq_true, if_false] using ih
theorem ready_iff {o : Oper} {done : Nat} : readyX o done = true ↔ ∀ e ∈ directs o, done.testBit e = true := by
  unfold readyX
  rw [nbeq_eq, decide_eq_true_iff]
  have e0 : Nat.land (needs o) done = needs o &&& done := rfl
  rw [e0]
  constructor
  · intro h e he
    have h1 := needs_bit.2 he
    rw [← h, Nat.testBit_and, Bool.and_eq_true] at h1
    exact h1.2
  · intro h
    refine Nat.eq_of_testBit_eq fun i => ?_
    rw [Nat.testBit_and]
    cases hb : (needs o).testBit i with
    | false => rfl
    | true => rw [h i (needs_bit.1 hb)]; rfl
end
end Go.X

/- The interpreter is right, part 24: what does not act runs early; the machine comes after. -/
namespace Go.X
open Go
section
variable {C : Cx} {B : Nat} {G : Gh} {H : Hp} {w : World} {f0 : FuncId} {cs0 : List Frame} {n0 : Nat}

/-- What an operation that has run here is. -/
def Ran (C : Cx) (G : Gh) (H : Hp) (ops : Array Oper) (m d : Nat) (o : Oper) (en : XEnv) (v : AV) (nI : Option Nat) (u : Nat) (chk : List Ck) : Prop :=
  (wantedX m d ops o en = some false ∧ v = .tup []) ∨
  (wantedX m d ops o en = some true ∧
    ((∃ f, opK C.K.P C.K m d o = .p f ∧ f en = .ok v) ∨
     (∃ f, opK C.K.P C.K m d o = .r f ∧ f H en = .ok v ∧ ∃ c ∈ chk, c.u = u ∧ ∀ H', c.t H' = true → f H' en = .ok v) ∨
     (∃ f ob g id, opK C.K.P C.K m d o = .m f ∧ f en = .ok (ob, g) ∧ v = g id ∧ nI = some id ∧ G id = none ∧ H.get id = some ob ∧ ∃ c ∈ chk, c.u = u ∧ ∀ H', c.t H' = true → H'.get id = some ob)))

theorem DrawR.ran {fn : FuncId} {ops : Array Oper} {m d done u : Nat} {o : Oper} {chk : List Ck} {en : XEnv} {is : List Nat} {tmps : Array Value} {lo : Nat} (h : DrawR C fn G H lo H.nx ops m d done chk en is tmps true) (hlo : lo ≤ H.nx)
    (ho : ops[u]? = some o) (hdn : done.testBit u = false) (hrdy : ∀ e ∈ directs o, done.testBit e = true) (ha : actOp o.op = false) {H' : Hp} (hle : H.le H') (hnx : H.nx ≤ H'.nx) {chk' : List Ck} (hck : ∀ c ∈ chk, c ∈ chk')
    {v : AV} {nI : Option Nat} (hI : nI = none ∨ (nI = some H.nx ∧ H.nx < H'.nx)) (hp : Ran C G H' ops m d o en v nI u chk') :
    DrawR C fn G H' lo H'.nx ops m d (Nat.lor done (Nat.pow 2 u)) chk' (wrE m d o.dst v en) is tmps true := by
  have hd := drawOK_spec h.ok
  obtain ⟨en0, V, I, v1, v2, v3, v4, v5⟩ := h.vals
  have hcl : ∀ q, bef (Region.before ops).toList u q = true → done.testBit q = true := fun q hq =>
    hd.closed (S := fun q => done.testBit q = true) (fun i p a b => h.cl i p a b) u o ho hrdy q hq
  have hui : u ∈ is := h.sub u (lt_of_op ho) hdn
  have hbit : ∀ q, (Nat.lor done (Nat.pow 2 u)).testBit q = true ↔ (done.testBit q = true ∨ q = u) := fun q => by
    rw [lor_bit, Bool.or_eq_true, decide_eq_true_iff]
    exact or_congr_right eq_comm
  have hV : Vals G ops m d en0 (updV V u v) (fun q => q < ops.size ∧ q ∉ is) tmps := by
    intro t
    refine ⟨fun q hq hw => ?_, (v1 t).2⟩
    rw [updV_other _ _ (fun e => by subst e; exact hq.2 hui)]
    exact (v1 t).1 q hq hw
  refine ⟨h.dst, h.ok, h.nd, h.lt, h.lin, h.lin2, fun i hi hb => ?_, fun i p hpo hpa hb => ?_, fun i p hb hpo e he => ?_, en0, updV V u v, (fun j => if j = u then nI else I j), hV, ?_, ?_, ?_, ?_⟩
  · rw [lor_bit, Bool.or_eq_false_iff] at hb
    exact h.sub i hi hb.1
  · rcases (hbit i).1 hb with q | q
    · exact h.act i p hpo hpa q
    · subst q; rw [ho] at hpo; cases hpo; rw [ha] at hpa; cases hpa
  · rw [hbit]
    rcases (hbit i).1 hb with q | q
    · exact .inl (h.cl i p q hpo e he)
    · subst q; rw [ho] at hpo; cases hpo; exact .inl (hrdy e he)
  · exact (v2.put hd ho (by simp [hdn]) v).congr fun q => (hbit q).symm
  · intro j id hj
    by_cases e : j = u
    · simp only [e, if_true] at hj
      rcases hI with q | ⟨q, q2⟩
      · rw [q] at hj; cases hj
      · rw [q] at hj; cases hj; exact ⟨hlo, q2⟩
    · simp only [e, if_false] at hj
      exact ⟨(v3 j id hj).1, Nat.lt_of_lt_of_le (v3 j id hj).2 hnx⟩
  · intro j k id hj hk
    by_cases e : j = u
    · by_cases e2 : k = u
      · rw [e, e2]
      · simp only [e, if_true] at hj
        simp only [e2, if_false] at hk
        rcases hI with q | ⟨q, q2⟩
        · rw [q] at hj; cases hj
        · rw [q] at hj; cases hj
          exact absurd (v3 k _ hk).2 (Nat.lt_irrefl _)
    · by_cases e2 : k = u
      · simp only [e2, if_true] at hk
        simp only [e, if_false] at hj
        rcases hI with q | ⟨q, q2⟩
        · rw [q] at hk; cases hk
        · rw [q] at hk; cases hk
          exact absurd (v3 j _ hj).2 (Nat.lt_irrefl _)
      · simp only [e, if_false] at hj
        simp only [e2, if_false] at hk
        exact v4 j k id hj hk
  · intro j hb hj
    by_cases e : j = u
    · subst e
      refine ⟨o, en, ho, ha, fun t ht => ⟨fun q hq hbq => ?_, fun hno => ?_⟩, ?_⟩
      · have hqd := hcl q hbq
        have hne : q ≠ j := fun e => by subst e; rw [hdn] at hqd; cases hqd
        rw [updV_other _ _ hne]
        exact (v2 t).1 q hqd hq
      · refine (v2 t).2 fun q hqd hq => ?_
        have hqd : done.testBit q = true := hqd
        have hne : q ≠ j := fun e => by subst e; rw [hdn] at hqd; cases hqd
        rcases hd.look ho ht hq hne with b | b
        · rw [hno q hq] at b; cases b
        · obtain ⟨p, hpo, _⟩ := hq
          have := hd.closed (S := fun q => done.testBit q = true) (fun i p a b => h.cl i p a b) q p hpo (h.cl q p hqd hpo) j b
          rw [hdn] at this; cases this
      · rw [updV_same]
        rcases hp with p1 | ⟨p1, ⟨f, p2, p3⟩ | ⟨f, p2, p3, c, p4, p5, p6⟩ | ⟨f, ob, g, id, p2, p3, p4, p5, p6, p7, c, p8, p9, p10⟩⟩
        · exact .inl p1
        · exact .inr ⟨p1, .inl ⟨f, p2, p3⟩⟩
        · exact .inr ⟨p1, .inr (.inl ⟨f, p2, fun _ => p3, c, p4, p5, p6⟩)⟩
        · exact .inr ⟨p1, .inr (.inr ⟨f, ob, g, id, p2, p3, p4, by simp [p5], p6, fun _ => p7, c, p8, p9, p10⟩)⟩
    · have hbj := ((hbit j).1 hb).resolve_right e
      obtain ⟨p, ej, p1, p2, p3, p4⟩ := v5 j hbj hj
      have hbu : bef (Region.before ops).toList j u = false := by
        cases hq : bef (Region.before ops).toList j u with
        | false => rfl
        | true =>
          have := hd.closed (S := fun q => done.testBit q = true) (fun q r a b => h.cl q r a b) j p p1 (h.cl j p hbj p1) u hq
          rw [hdn] at this; cases this
      refine ⟨p, ej, p1, p2, p3.upd hd p1 hbu v, ?_⟩
      rw [updV_other _ _ e]
      rcases p4 with p4 | ⟨p4, p5 | ⟨f, p6, p7, c, p8, p9, p10⟩ | ⟨f, ob, g, id, p6, p7, p8, p9, p10, p11, c, p12, p13, p14⟩⟩
      · exact .inl p4
      · exact .inr ⟨p4, .inl p5⟩
      · exact .inr ⟨p4, .inr (.inl ⟨f, p6, fun _ => r_mono (by rw [p6]; rfl) hle (p7 rfl), c, hck c p8, p9, p10⟩)⟩
      · exact .inr ⟨p4, .inr (.inr ⟨f, ob, g, id, p6, p7, p8, by simp [e, p9], p10, fun _ => hle _ _ (p11 rfl), c, hck c p12, p13, p14⟩)⟩

/-! ### A pass -/
theorem numbered_spec : ∀ (l : List Oper) (i : Nat), numbered l i = (List.range l.length).map (fun j => (i + j, l.getD j default)) 
  | [], i => rfl
  | o :: r, i => by
    rw [numbered, numbered_spec r (Nat.succ i), List.length_cons, List.range_succ_eq_map, List.map_cons, List.map_map]
    simp only [Nat.add_zero, List.getD_cons_zero]
    congr 1
    refine List.map_congr_left fun j _ => ?_
    simp only [Function.comp, List.getD_cons_succ]
    congr 1
    omega
theorem numbered_mem {ops : Array Oper} {x : Nat × Oper} : x ∈ numbered ops.toList 0 ↔ ops[x.1]? = some x.2 := by
  rw [numbered_spec, List.mem_map]
  constructor
  · rintro ⟨j, hj, rfl⟩
    have hj : j < ops.size := by simpa using List.mem_range.1 hj
    simp [List.getD_eq_getElem?_getD, hj]
  · intro h
    have hl := lt_of_op h
    refine ⟨x.1, List.mem_range.2 (by simpa using hl), ?_⟩
    obtain ⟨i, o⟩ := x
    simp only at h hl
    simp [List.getD_eq_getElem?_getD, h]
theorem numbered_sorted (ops : Array Oper) : (numbered ops.toList 0).Pairwise fun x y => x.1 < y.1 := by
  rw [numbered_spec, List.pairwise_map]
  refine List.Pairwise.imp ?_ List.pairwise_lt_range
  intro a b h; simpa using h

theorem stays_sound (ob : XObj) {id : Nat} {H' : Hp} (h : stays id ob H' = true) (hx : XObj.eqb ob ob = true → True) (heq : ∀ b, ob.eqb b = true → b = ob) : H'.get id = some ob := by
  unfold stays at h
  split at h
  · next b hb => rw [hb, heq b h]
  · cases h

mutual
theorem treq_eq : ∀ (d : Nat) (a b : Tr AV), TrEq d a b = true → a = b
  | 0, _, _, h => by simp [TrEq] at h
  | d + 1, .e, b, h => by cases b <;> simp_all [TrEq]
  | d + 1, .l a, b, h => by
    cases b with
    | l c => simp only [TrEq] at h; rw [AV.eqb_eq _ _ h]
    | _ => simp [TrEq] at h
  | d + 1, .n x y, b, h => by
    cases b with
    | n u v =>
      simp only [TrEq, Bool.and_eq_true] at h
      rw [treq_eq d x u h.1, treq_eq d y v h.2]
    | _ => simp [TrEq] at h
end
theorem entsEq_eq : ∀ (a b : List XEnt), entsEq a b = true → a = b
  | [], [], _ => rfl
  | [], _ :: _, h => by simp [entsEq] at h
  | _ :: _, [], h => by simp [entsEq] at h
  | a :: r, b :: s, h => by
    simp only [entsEq, Bool.and_eq_true, nbeq_eq, decide_eq_true_iff] at h
    obtain ⟨⟨⟨h1, h2⟩, h3⟩, h4⟩ := h
    obtain ⟨k, v, n⟩ := a
    obtain ⟨k', v', n'⟩ := b
    rw [entsEq_eq r s h4]
    simp only at h1 h2 h3
    rw [AV.eqb_eq _ _ h1, AV.eqb_eq _ _ h2, h3]
theorem XObj.eqb_eq {a b : XObj} (h : a.eqb b = true) : a = b := by
  cases a <;> cases b <;> first | (simp [XObj.eqb] at h; done) | skip
  · simp only [XObj.eqb, Bool.and_eq_true, nbeq_eq, eqON_iff, eqB_eq, beq_iff_eq, decide_eq_true_iff] at h
    obtain ⟨⟨⟨⟨⟨⟨h1, h2⟩, h3⟩, h4⟩, h5⟩, h6⟩, h7⟩ := h
    rw [h1, h2, h3, h4, h5, h7, treq_eq _ _ _ h6]
  · simp only [XObj.eqb, Bool.and_eq_true, nbeq_eq, decide_eq_true_iff] at h
    rw [h.1, entsEq_eq _ _ h.2]

theorem pass_sim {fn : FuncId} {ops : Array Oper} {m d : Nat} {is : List Nat} {tmps : Array Value} {lo : Nat} : ∀ (l : List (Nat × Oper)) (H : Hp) (en : XEnv) (done : Nat) (acc : List (Nat × Oper)) (chk : List Ck),
    HR C B G H w → lo ≤ H.nx → DrawR C fn G H lo H.nx ops m d done chk en is tmps true → acc.reverse ++ l = (numbered ops.toList 0).filter (fun x => !done.testBit x.1) → (∀ x ∈ acc, actOp x.2.op = true ∨ readyX x.2 done = false) →
    ∀ {H' : Hp} {en' : XEnv} {done' : Nat} {rest : List (Nat × Oper)} {chk' : List Ck}, pass C.K ops m d l H en done acc chk = .ok H' en' done' rest chk' →
    HR C B G H' w ∧ H.nx ≤ H'.nx ∧ DrawR C fn G H' lo H'.nx ops m d done' chk' en' is tmps true ∧ rest = (numbered ops.toList 0).filter (fun x => !done'.testBit x.1) ∧ (∀ x ∈ rest, actOp x.2.op = true ∨ readyX x.2 done' = false)
  | [], H, en, done, acc, chk, hr, hlo, hD, hl, hacc, H', en', done', rest, chk', h => by
    have h : forceL acc.reverse (fun acc => PR.ok H en done acc chk) = .ok H' en' done' rest chk' := h
    rw [forceL_eq] at h
    cases h
    rw [List.append_nil] at hl
    exact ⟨hr, Nat.le_refl _, hD, hl, fun x hx => hacc x (List.mem_reverse.1 hx)⟩
  | x :: r, H, en, done, acc, chk, hr, hlo, hD, hl, hacc, H', en', done', rest, chk', h => by
    obtain ⟨i, o⟩ := x
    have hmem : (i, o) ∈ (numbered ops.toList 0).filter (fun x => !done.testBit x.1) := by rw [← hl]; simp
    obtain ⟨hm1, hm2⟩ := List.mem_filter.1 hmem
    have ho : ops[i]? = some o := numbered_mem.1 hm1
    have hdn : done.testBit i = false := by simpa using hm2
    have hd := drawOK_spec hD.ok
    -- it stays
    have stay : (actOp o.op = true ∨ readyX o done = false) → pass C.K ops m d r H en done ((i, o) :: acc) chk = .ok H' en' done' rest chk' → HR C B G H' w ∧ H.nx ≤ H'.nx ∧ DrawR C fn G H' lo H'.nx ops m d done' chk' en' is tmps true ∧ rest = (numbered ops.toList 0).filter (fun x => !done'.testBit x.1) ∧ (∀ x ∈ rest, actOp x.2.op = true ∨ readyX x.2 done' = false) := by
      intro hs hp
      refine pass_sim r H en done ((i, o) :: acc) chk hr hlo hD (by rw [← hl]; simp) (fun y hy => ?_) hp
      rcases List.mem_cons.1 hy with e | e
      · subst e; exact hs
      · exact hacc y e
    -- it has run
    have go : ∀ {H1 : Hp} {chk1 : List Ck} {v : AV} {nI : Option Nat}, HR C B G H1 w → H.le H1 → H.nx ≤ H1.nx → (∀ c ∈ chk, c ∈ chk1) → (nI = none ∨ (nI = some H.nx ∧ H.nx < H1.nx)) → readyX o done = true → actOp o.op = false → Ran C G H1 ops m d o en v nI i chk1 →
        pass C.K ops m d r H1 (wrE m d o.dst v en) (Nat.lor done (Nat.pow 2 i)) acc chk1 = .ok H' en' done' rest chk' → HR C B G H' w ∧ H.nx ≤ H'.nx ∧ DrawR C fn G H' lo H'.nx ops m d done' chk' en' is tmps true ∧ rest = (numbered ops.toList 0).filter (fun x => !done'.testBit x.1) ∧ (∀ x ∈ rest, actOp x.2.op = true ∨ readyX x.2 done' = false) := by
      intro H1 chk1 v nI hr1 hle hnx hck hI hrdy hna hran hp
      have hD1 := hD.ran hlo ho hdn (ready_iff.1 hrdy) hna hle hnx hck hI hran
      have hsort := (numbered_sorted ops).sublist (List.filter_sublist (p := fun x => !done.testBit x.1))
      rw [← hl, List.pairwise_append] at hsort
      obtain ⟨s1, s2, s3⟩ := hsort
      have hf : (numbered ops.toList 0).filter (fun x => !(Nat.lor done (Nat.pow 2 i)).testBit x.1) = acc.reverse ++ r := by
        have e1 : (numbered ops.toList 0).filter (fun x => !(Nat.lor done (Nat.pow 2 i)).testBit x.1) = ((numbered ops.toList 0).filter (fun x => !done.testBit x.1)).filter (fun x => !decide (i = x.1)) := by
          rw [List.filter_filter]
          refine List.filter_congr fun x _ => ?_
          rw [lor_bit]
          cases done.testBit x.1 <;> cases decide (i = x.1) <;> rfl
        rw [e1, ← hl, List.filter_append, List.filter_cons]
        have h1 : acc.reverse.filter (fun x => !decide (i = x.1)) = acc.reverse := List.filter_eq_self.2 fun x hx => by
          have := s3 x hx (i, o) List.mem_cons_self
          have : i ≠ x.1 := by simp only at this; omega
          simp [this]
        have h2 : r.filter (fun x => !decide (i = x.1)) = r := List.filter_eq_self.2 fun x hx => by
          have := (List.pairwise_cons.1 s2).1 x hx
          have : i ≠ x.1 := by simp only at this; omega
          simp [this]
        rw [h1, h2]
        simp
      have := pass_sim r H1 (wrE m d o.dst v en) (Nat.lor done (Nat.pow 2 i)) acc chk1 hr1 (Nat.le_trans hlo hnx) hD1 hf.symm (fun y hy => ?_) hp
      · exact ⟨this.1, Nat.le_trans hnx this.2.1, this.2.2⟩
      · rcases hacc y hy with q | q
        · exact .inl q
        · right
          have hyl : y.1 < i := s3 y (List.mem_reverse.2 hy) (i, o) List.mem_cons_self
          cases hrd : readyX y.2 (Nat.lor done (Nat.pow 2 i)) with
          | false => rfl
          | true =>
            have hyo : ops[y.1]? = some y.2 := by
              have : y ∈ (numbered ops.toList 0).filter (fun x => !done.testBit x.1) := by rw [← hl]; simp [hy]
              exact numbered_mem.1 (List.mem_filter.1 this).1
            have : readyX y.2 done = true := ready_iff.2 fun e he => by
              have h1 := ready_iff.1 hrd e he
              rw [lor_bit, Bool.or_eq_true, decide_eq_true_iff] at h1
              refine h1.resolve_right fun q => ?_
              have := hd.dlt y.1 y.2 hyo e he
              omega
            rw [q] at this; cases this
    have h0 : (bif readyX o done then (match wantedX m d ops o en with
      | some true => match opK C.K.P C.K m d o with
        | .p f => E.rec (motive := fun _ => PR) (fun v => (wr PR m d o.dst).un v en fun en => force (Nat.lor done (Nat.pow 2 i)) fun done => pass C.K ops m d r H en done acc chk) .er (f en)
        | .r f => E.rec (motive := fun _ => PR) (fun v => (wr PR m d o.dst).un v en fun en' => force (Nat.lor done (Nat.pow 2 i)) fun done => pass C.K ops m d r H en' done acc (⟨i, fun H => match f H en with | .ok v' => v'.eqb v | .er _ => false⟩ :: chk)) .er (f H en)
        | .m f => E.rec (motive := fun _ => PR) (fun y => Prod.rec (motive := fun _ => PR) (fun ob g => bif (H.get H.nx).isSome then .er 159 else newK H ob (fun id H => (wr PR m d o.dst).un (g id) en fun en => force (Nat.lor done (Nat.pow 2 i)) fun done => pass C.K ops m d r H en done acc (⟨i, stays id ob⟩ :: chk)) .er) y) .er (f en)
        | .a _ => pass C.K ops m d r H en done ((i, o) :: acc) chk
        | .no => .er 160
      | some false => match opK C.K.P C.K m d o with
        | .a _ => pass C.K ops m d r H en done ((i, o) :: acc) chk
        | .no => .er 160
        | _ => (wr PR m d o.dst).un (.tup []) en fun en => force (Nat.lor done (Nat.pow 2 i)) fun done => pass C.K ops m d r H en done acc chk
      | none => .er 161) else pass C.K ops m d r H en done ((i, o) :: acc) chk) = .ok H' en' done' rest chk' := h
    clear h
    cases hrdy : readyX o done with
    | false => rw [hrdy] at h0; exact stay (.inr hrdy) h0
    | true =>
      rw [hrdy, cond_true] at h0
      have hna : ∀ {k : OpK}, opK C.K.P C.K m d o = k → (∀ f, k ≠ .a f) → k ≠ .no → actOp o.op = false := by
        intro k hk h1 h2
        cases hq : actOp o.op with
        | false => rfl
        | true =>
          rcases (act_opK (P := C.K.P) (K := C.K) (m := m) (d := d)).2 hq with ⟨f, q⟩ | q
          · rw [hk] at q; exact absurd q (h1 f)
          · rw [hk] at q; exact absurd q h2
      split at h0
      · next hw =>
        split at h0
        · next f hf =>
          cases hq : f en with
          | er s => rw [hq] at h0; cases h0
          | ok v =>
            rw [hq] at h0
            have h0 : (wr PR m d o.dst).un v en (fun en => force (Nat.lor done (Nat.pow 2 i)) fun done => pass C.K ops m d r H en done acc chk) = .ok H' en' done' rest chk' := h0
            rw [wr_eq, force_eq] at h0
            exact go hr (fun _ _ q => q) (Nat.le_refl _) (fun _ q => q) (.inl rfl) hrdy (hna hf (fun f e => by cases e) (fun e => by cases e)) (.inr ⟨hw, .inl ⟨f, hf, hq⟩⟩) h0
        · next f hf =>
          cases hq : f H en with
          | er s => rw [hq] at h0; cases h0
          | ok v =>
            rw [hq] at h0
            have h0 : (wr PR m d o.dst).un v en (fun en' => force (Nat.lor done (Nat.pow 2 i)) fun done => pass C.K ops m d r H en' done acc (⟨i, fun H => match f H en with | .ok v' => v'.eqb v | .er _ => false⟩ :: chk)) = .ok H' en' done' rest chk' := h0
            rw [wr_eq, force_eq] at h0
            refine go hr (fun _ _ q => q) (Nat.le_refl _) (fun _ q => List.mem_cons_of_mem _ q) (.inl rfl) hrdy (hna hf (fun f e => by cases e) (fun e => by cases e)) (.inr ⟨hw, .inr (.inl ⟨f, hf, hq, _, List.mem_cons_self, rfl, fun H' ht => ?_⟩)⟩) h0
            simp only at ht
            split at ht
            · next v' hv' => rw [hv', AV.eqb_eq _ _ ht]
            · cases ht
        · next f hf =>
          cases hq : f en with
          | er s => rw [hq] at h0; cases h0
          | ok y =>
            obtain ⟨ob, g⟩ := y
            rw [hq] at h0
            have h0 : (bif (H.get H.nx).isSome then .er 159 else newK H ob (fun id H => (wr PR m d o.dst).un (g id) en fun en => force (Nat.lor done (Nat.pow 2 i)) fun done => pass C.K ops m d r H en done acc (⟨i, stays id ob⟩ :: chk)) .er) = .ok H' en' done' rest chk' := h0
            cases hsome : (H.get H.nx).isSome with
            | true => rw [hsome] at h0; cases h0
            | false =>
              rw [hsome, cond_false] at h0
              rcases newK_inv (H := H) (o := ob) (k := fun id H => (wr PR m d o.dst).un (g id) en fun en => force (Nat.lor done (Nat.pow 2 i)) fun done => pass C.K ops m d r H en done acc (⟨i, stays id ob⟩ :: chk)) (e := PR.er) with ⟨hnx, e⟩ | e
              · rw [e, wr_eq, force_eq] at h0
                have hle : H.le (H.add ob) := by
                  intro id p hp
                  have e0 : (H.add ob).get id = if path dH H.nx = path dH id then some ob else H.get id := by
                    rw [Hp.get_eq, Hp.get_eq]; exact Tr.get_put ob _ _ _ ((path_len _ _).trans (path_len _ _).symm)
                  rw [e0]
                  split
                  · next e =>
                    rw [Hp.get_eq, ← e, ← Hp.get_eq] at hp
                    rw [hp] at hsome; cases hsome
                  · exact hp
                have hget : (H.add ob).get H.nx = some ob := by rw [Hp.get_add _ hnx hnx, if_pos rfl]
                refine go (hr.unborn hnx ob) hle (Nat.le_succ _) (fun _ q => List.mem_cons_of_mem _ q) (.inr ⟨rfl, Nat.lt_succ_self _⟩) hrdy (hna hf (fun f e => by cases e) (fun e => by cases e))
                  (.inr ⟨hw, .inr (.inr ⟨f, ob, g, H.nx, hf, hq, rfl, rfl, hr.fresh, hget, _, List.mem_cons_self, rfl, fun H' ht => stays_sound ob ht (fun _ => trivial) (fun b hb => (XObj.eqb_eq hb).symm)⟩)⟩) h0
              · rw [e] at h0; cases h0
        · next f hf => exact stay (.inl (act_opK.1 ⟨f, hf⟩)) h0
        · cases h0
      · next hw =>
        split at h0
        · next f hf => exact stay (.inl (act_opK.1 ⟨f, hf⟩)) h0
        · cases h0
        · next k h1 h2 =>
          rw [wr_eq, force_eq] at h0
          exact go hr (fun _ _ q => q) (Nat.le_refl _) (fun _ q => q) (.inl rfl) hrdy (hna rfl (fun f e => h1 f e) (fun e => h2 e)) (.inl ⟨hw, rfl⟩) h0
      · cases h0
end
end Go.X

