import PyProof.Rows.All
import Wide.All
import OpenK.AllK
import Wide.FinOn
import HandS.ForMost
import HandS.Walk
import HandS.Wide
import HandS.TupAny
import HandS.IsInst
import HandS.Style
import HandS.Property
import KE.KCallOwn
import HandS.FStr
import HandS.RaiseMore
import HandS.SetFor
import HandS.Replace
import KE.LtData
import HandS.Defaults
import KE.DatumOrd
import HandS.More
import HandS.MakeKw
import HandS.Text
import PyProof.EqKinds
import PyProof.EqAt
import HandS.MakeKwOnly
import HandS.ClsMeth
import HandS.Star
import HandS.Lambda
import HandS.Exc
import PyProof.Draws
import PyProof.EnumMake
import PyProof.EnumFor
import HandS.Iter
import HandS.Conv
import HandS.ExcField
import HandS.ExcIs
import HandS.TryMany
import HandS.Set
import HandS.Strs
import PyProof.Rows.SortStr
import HandS.HeadWalk
import HandS.DeepEq
import HandS.Head0
import HandS.Head1
import HandS.Head2
import HandS.HeadHook1
import HandS.HeadHook2
import HandS.HeadHook4
import KE.KStateDown
import HandS.ExcInit
import HandS.WideBits
import HandS.HeadEnd
import PySem.Challenge.RW_fixrest_k13_rows_cut
set_option Elab.async false
set_option linter.all false
set_option maxRecDepth 100000
set_option maxHeartbeats 2000000
/-! Fx, part 1: plain data, what represents it in the abstract heap, evaluation over a growing base. -/
namespace Fx
open PySem L2

/-- plain data: what a value is, all the way down -/
inductive D where
  | non | bl (b : Bool) | int (i : Int) | str (x : Str) | ref (a : Addr) | ty (n : String)
  | lst (xs : List D) | tup (xs : List D)
  /-- an instance that never changes any more: class, attributes -/
  | obj (C : Addr) (fs : List (Str × D))
  /-- a dict that never changes any more -/
  | dic (kvs : List (Key × D))
  /-- a law's pot of draws: a list of two numbers that are at least 0, the second one small -/
  | pot
  /-- the law's script -/
  | scr (ns : List Int)

/-- the pot at p, whatever its numbers -/
def potIs (p : Addr) (h : Heap) : Prop := ∃ (a b : Int) (t u : Tok) (n : Nat), h.get? p = some { cls := .type "list", data := .seq #[.int a t, .int b u] n } ∧ 0 ≤ a ∧ 0 ≤ b ∧ b < 2 ^ 40
def potO (p : Addr) : HO := .ext (potIs p)

/-- what stood stands -/
def Ex (H H' : Hp) : Prop := ∀ a o, H a = some o → H' a = some o
theorem Ex.refl (H : Hp) : Ex H H := fun _ _ h => h
theorem Ex.trans {H H1 H2 : Hp} (a : Ex H H1) (b : Ex H1 H2) : Ex H H2 := fun x o h => b x o (a x o h)
theorem Ex.back {H H' : Hp} {p : Addr} (e : Ex H H') (h : H' p = none) : H p = none := by
  cases h1 : H p with
  | none => rfl
  | some o => rw [e p o h1] at h; cases h
theorem Ex.new {H : Hp} {p : Addr} {o : HO} (h : H p = none) : Ex H (upd H p o) := fun a u e => by
  rw [upd_ne (ne_of_none e h)]; exact e
theorem Ex.put {H H' : Hp} {p : Addr} {o : HO} (e : Ex H H') (h : H p = none) : Ex H (upd H' p o) := fun a u ha => by
  rw [upd_ne (ne_of_none ha h)]; exact e a u ha
/-- the base gets an object that the heap already has -/
theorem Ex.upd_left {B H : Hp} {p : Addr} {o : HO} (e : Ex B H) (h : H p = some o) : Ex (upd B p o) H := fun a u ha => by
  by_cases ea : a = p
  · subst ea; rw [upd_same] at ha; cases ha; exact h
  · rw [upd_ne ea] at ha; exact e a u ha
theorem Ex.rd {H H' : Hp} {a : Addr} {u : HO} (e : Ex H H') (h : Rd H a u) : Rd H' a u := by
  rcases h with h | ⟨o, h⟩
  · exact Or.inl (e a _ h)
  · exact Or.inr ⟨o, e a _ h⟩
theorem Ex.l {K : PySem.W.Frag} {H H' : Hp} {a : Addr} {xs : List V} (e : Ex H H') (h : SqL K H a xs) : SqL K H' a xs := by
  rcases h with h | h
  · exact Or.inl (e.rd h)
  · exact Or.inr h
theorem Ex.t {K : PySem.W.Frag} {H H' : Hp} {a : Addr} {xs : List V} (e : Ex H H') (h : SqT K H a xs) : SqT K H' a xs := by
  rcases h with h | h
  · exact Or.inl (e.rd h)
  · exact Or.inr h

section
variable (K : PySem.W.Frag) (H : Hp)
mutual
/-- the value represents the data in the heap -/
def Rp : D → V → Prop
  | .non, v => v = .non
  | .bl b, v => v = .bl b
  | .int i, v => v = .int i
  | .str x, v => v = .str x
  | .ref a, v => v = .ref a
  | .ty n, v => v = .ty n
  | .lst ds, v => ∃ a xs, v = .ref a ∧ H a = some (.lst xs) ∧ RpL ds xs
  | .tup ds, v => ∃ a xs, v = .ref a ∧ SqT K H a xs ∧ RpL ds xs
  | .obj C fs, v => ∃ a dx gs, v = .ref a ∧ H a = some (.ins C dx gs) ∧ RpF fs gs
  | .dic kvs, v => ∃ a xs, v = .ref a ∧ Rd H a (.dK xs) ∧ RpK kvs xs
  | .pot, v => ∃ a, v = .ref a ∧ H a = some (potO a)
  | .scr ns, v => ∃ a, v = .ref a ∧ SqL K H a (ns.map V.int)
def RpL : List D → List V → Prop
  | [], vs => vs = []
  | d :: ds, vs => ∃ v r, vs = v :: r ∧ Rp d v ∧ RpL ds r
def RpF : List (Str × D) → List (Str × V) → Prop
  | [], vs => vs = []
  | (f, d) :: ds, vs => ∃ v r, vs = (f, v) :: r ∧ Rp d v ∧ RpF ds r
def RpK : List (Key × D) → List (Key × V) → Prop
  | [], vs => vs = []
  | (f, d) :: ds, vs => ∃ v r, vs = (f, v) :: r ∧ Rp d v ∧ RpK ds r
end
end

section
variable {K : PySem.W.Frag} {H H' : Hp}
mutual
theorem Rp.mono (e : Ex H H') : ∀ {d : D} {v : V}, Rp K H d v → Rp K H' d v
  | .non, _, h => by simpa only [Rp] using h
  | .bl _, _, h => by simpa only [Rp] using h
  | .int _, _, h => by simpa only [Rp] using h
  | .str _, _, h => by simpa only [Rp] using h
  | .ref _, _, h => by simpa only [Rp] using h
  | .ty _, _, h => by simpa only [Rp] using h
  | .lst ds, _, h => by
    simp only [Rp] at h ⊢
    obtain ⟨a, xs, e1, h1, h2⟩ := h
    exact ⟨a, xs, e1, e _ _ h1, RpL.mono e h2⟩
  | .tup ds, _, h => by
    simp only [Rp] at h ⊢
    obtain ⟨a, xs, e1, h1, h2⟩ := h
    exact ⟨a, xs, e1, e.t h1, RpL.mono e h2⟩
  | .obj C fs, _, h => by
    simp only [Rp] at h ⊢
    obtain ⟨a, dx, gs, e1, h1, h2⟩ := h
    exact ⟨a, dx, gs, e1, e _ _ h1, RpF.mono e h2⟩
  | .dic kvs, _, h => by
    simp only [Rp] at h ⊢
    obtain ⟨a, xs, e1, h1, h2⟩ := h
    exact ⟨a, xs, e1, e.rd h1, RpK.mono e h2⟩
  | .pot, _, h => by
    simp only [Rp] at h ⊢
    obtain ⟨a, e1, h1⟩ := h
    exact ⟨a, e1, e _ _ h1⟩
  | .scr ns, _, h => by
    simp only [Rp] at h ⊢
    obtain ⟨a, e1, h1⟩ := h
    exact ⟨a, e1, e.l h1⟩
theorem RpL.mono (e : Ex H H') : ∀ {ds : List D} {vs : List V}, RpL K H ds vs → RpL K H' ds vs
  | [], _, h => by simpa only [RpL] using h
  | d :: ds, _, h => by
    simp only [RpL] at h ⊢
    obtain ⟨v, r, e1, h1, h2⟩ := h
    exact ⟨v, r, e1, Rp.mono e h1, RpL.mono e h2⟩
theorem RpF.mono (e : Ex H H') : ∀ {ds : List (Str × D)} {vs : List (Str × V)}, RpF K H ds vs → RpF K H' ds vs
  | [], _, h => by simpa only [RpF] using h
  | (f, d) :: ds, _, h => by
    simp only [RpF] at h ⊢
    obtain ⟨v, r, e1, h1, h2⟩ := h
    exact ⟨v, r, e1, Rp.mono e h1, RpF.mono e h2⟩
theorem RpK.mono (e : Ex H H') : ∀ {ds : List (Key × D)} {vs : List (Key × V)}, RpK K H ds vs → RpK K H' ds vs
  | [], _, h => by simpa only [RpK] using h
  | (f, d) :: ds, _, h => by
    simp only [RpK] at h ⊢
    obtain ⟨v, r, e1, h1, h2⟩ := h
    exact ⟨v, r, e1, Rp.mono e h1, RpK.mono e h2⟩
end
theorem RpL.nil : RpL K H [] [] := by simp only [RpL]
theorem RpL.cons {d : D} {ds : List D} {v : V} {vs : List V} (h : Rp K H d v) (t : RpL K H ds vs) : RpL K H (d :: ds) (v :: vs) := by
  simp only [RpL]; exact ⟨v, vs, rfl, h, t⟩
theorem RpL.length : ∀ {ds : List D} {vs : List V}, RpL K H ds vs → ds.length = vs.length
  | [], _, h => by simp only [RpL] at h; subst h; rfl
  | d :: ds, _, h => by
    simp only [RpL] at h
    obtain ⟨v, r, rfl, _, h2⟩ := h
    simp only [List.length_cons, RpL.length h2]
theorem RpL.append : ∀ {ds es : List D} {vs ws : List V}, RpL K H ds vs → RpL K H es ws → RpL K H (ds ++ es) (vs ++ ws)
  | [], _, _, _, h, t => by simp only [RpL] at h; subst h; exact t
  | d :: ds, _, _, _, h, t => by
    simp only [RpL] at h
    obtain ⟨v, r, rfl, h1, h2⟩ := h
    exact RpL.cons h1 (RpL.append h2 t)
theorem RpL.get : ∀ {ds : List D} {vs : List V} {i : Nat} {v : V}, RpL K H ds vs → vs[i]? = some v → ∃ d, ds[i]? = some d ∧ Rp K H d v
  | [], _, i, v, h, e => by simp only [RpL] at h; subst h; simp at e
  | d :: ds, _, 0, v, h, e => by
    simp only [RpL] at h
    obtain ⟨w, r, rfl, h1, h2⟩ := h
    simp at e; subst e; exact ⟨d, rfl, h1⟩
  | d :: ds, _, i + 1, v, h, e => by
    simp only [RpL] at h
    obtain ⟨w, r, rfl, h1, h2⟩ := h
    obtain ⟨d', a, b⟩ := RpL.get (i := i) h2 (by simpa using e)
    exact ⟨d', by simpa using a, b⟩
theorem RpL.at : ∀ {ds : List D} {vs : List V} {i : Nat} {d : D}, RpL K H ds vs → ds[i]? = some d → ∃ v, vs[i]? = some v ∧ Rp K H d v
  | [], _, i, v, h, e => by simp at e
  | d :: ds, _, 0, v, h, e => by
    simp only [RpL] at h
    obtain ⟨w, r, rfl, h1, h2⟩ := h
    simp at e; subst e; exact ⟨w, rfl, h1⟩
  | d :: ds, _, i + 1, v, h, e => by
    simp only [RpL] at h
    obtain ⟨w, r, rfl, h1, h2⟩ := h
    obtain ⟨d', a, b⟩ := RpL.at (i := i) h2 (by simpa using e)
    exact ⟨d', by simpa using a, b⟩
theorem RpL.take : ∀ {ds : List D} {vs : List V} (n : Nat), RpL K H ds vs → RpL K H (ds.take n) (vs.take n)
  | _, _, 0, _ => by simp only [List.take_zero, RpL]
  | [], _, n + 1, h => by simp only [RpL] at h; subst h; exact RpL.nil
  | d :: ds, _, n + 1, h => by
    simp only [RpL] at h
    obtain ⟨w, r, rfl, h1, h2⟩ := h
    exact RpL.cons h1 (RpL.take n h2)
theorem RpL.drop : ∀ {ds : List D} {vs : List V} (n : Nat), RpL K H ds vs → RpL K H (ds.drop n) (vs.drop n)
  | _, _, 0, h => h
  | [], _, n + 1, h => by simp only [RpL] at h; subst h; exact RpL.nil
  | d :: ds, _, n + 1, h => by
    simp only [RpL] at h
    obtain ⟨w, r, rfl, h1, h2⟩ := h
    exact RpL.drop n h2
theorem RpL.reverse : ∀ {ds : List D} {vs : List V}, RpL K H ds vs → RpL K H ds.reverse vs.reverse
  | [], _, h => by simp only [RpL] at h; subst h; exact RpL.nil
  | d :: ds, _, h => by
    simp only [RpL] at h
    obtain ⟨w, r, rfl, h1, h2⟩ := h
    rw [List.reverse_cons, List.reverse_cons]
    exact RpL.append (RpL.reverse h2) (RpL.cons h1 RpL.nil)
/-- lists of texts, ints, bools -/
abbrev D.strs (ws : List Str) : List D := ws.map D.str
abbrev D.ints (ns : List Int) : List D := ns.map D.int
abbrev D.bls (bs : List Bool) : List D := bs.map D.bl
theorem RpL.strs : ∀ {ws : List Str} {vs : List V}, RpL K H (D.strs ws) vs ↔ vs = ws.map V.str
  | [], _ => by simp [D.strs, RpL]
  | w :: ws, vs => by
    simp only [D.strs, List.map_cons, RpL, Rp]
    constructor
    · rintro ⟨v, r, rfl, rfl, h⟩
      rw [RpL.strs.mp h]
    · rintro rfl
      exact ⟨_, _, rfl, rfl, RpL.strs.mpr rfl⟩
theorem RpL.ints : ∀ {ws : List Int} {vs : List V}, RpL K H (D.ints ws) vs ↔ vs = ws.map V.int
  | [], _ => by simp [D.ints, RpL]
  | w :: ws, vs => by
    simp only [D.ints, List.map_cons, RpL, Rp]
    constructor
    · rintro ⟨v, r, rfl, rfl, h⟩
      rw [RpL.ints.mp h]
    · rintro rfl
      exact ⟨_, _, rfl, rfl, RpL.ints.mpr rfl⟩
theorem RpL.bls : ∀ {ws : List Bool} {vs : List V}, RpL K H (D.bls ws) vs ↔ vs = ws.map V.bl
  | [], _ => by simp [D.bls, RpL]
  | w :: ws, vs => by
    simp only [D.bls, List.map_cons, RpL, Rp]
    constructor
    · rintro ⟨v, r, rfl, rfl, h⟩
      rw [RpL.bls.mp h]
    · rintro rfl
      exact ⟨_, _, rfl, rfl, RpL.bls.mpr rfl⟩
end

/-! ### a step: the base B grows to B', the heap H to H'; what is new in the base is new in the heap -/
structure Step (B H B' H' : Hp) : Prop where
  b : Ex B B'
  bh : Ex B' H'
  h : Ex H H'
  nw : ∀ a, B a = none → H a ≠ none → B' a = none
theorem Step.refl {B H : Hp} (e : Ex B H) : Step B H B H := ⟨Ex.refl B, e, Ex.refl H, fun _ h _ => h⟩
theorem Step.trans {B H B1 H1 B2 H2 : Hp} (s : Step B H B1 H1) (t : Step B1 H1 B2 H2) : Step B H B2 H2 :=
  ⟨s.b.trans t.b, t.bh, s.h.trans t.h, fun a h1 h2 => t.nw a (s.nw a h1 h2) (fun h3 => h2 (s.h.back h3))⟩
theorem Step.keep {B H B' H' : Hp} {p : Addr} {o : HO} (s : Step B H B' H') (h1 : B p = none) (h2 : H p = some o) : B' p = none ∧ H' p = some o :=
  ⟨s.nw p h1 (by rw [h2]; exact fun z => nomatch z), s.h p o h2⟩
/-- a new object, shared -/
theorem Step.alloc {B H : Hp} {p : Addr} {o : HO} (e : Ex B H) (h : H p = none) : Step B H (upd B p o) (upd H p o) :=
  ⟨Ex.new (e.back h), fun a u ha => by
    by_cases q : a = p
    · subst q; rw [upd_same] at ha ⊢; exact ha
    · rw [upd_ne q] at ha ⊢; exact e a u ha, Ex.new h, fun a h1 h2 => by
    have q : a ≠ p := fun z => h2 (z ▸ h)
    rw [upd_ne q]; exact h1⟩
/-- a new object of one's own -/
theorem Step.own {B H : Hp} {p : Addr} {o : HO} (e : Ex B H) (h : H p = none) : Step B H B (upd H p o) :=
  ⟨Ex.refl B, e.trans (Ex.new h), Ex.new h, fun _ h _ => h⟩
/-- an object of one's own is shared from now on (it is new since H) -/
theorem Step.share {B H B' H' : Hp} {p : Addr} {o : HO} (s : Step B H B' H') (h0 : H p = none) (h1 : B' p = none) (h2 : H' p = some o) : Step B H (upd B' p o) H' :=
  ⟨s.b.trans (Ex.new h1), s.bh.upd_left h2, s.h, fun a z1 z2 => by
    have q : a ≠ p := fun z => z2 (z ▸ h0)
    rw [upd_ne q]; exact s.nw a z1 z2⟩
end Fx
set_option Elab.async false
set_option linter.all false
set_option maxRecDepth 100000
set_option maxHeartbeats 2000000
/-! Fx, part 2: runs from a state, expressions over a base, blocks. -/
namespace Fx
open PySem L2

/-! ### runs of syntax from one abstract state -/
def RE (X : Cx) (e : Expr) (σ : L2.St) (H : Hp) (Q : VK) : Prop := ∀ pins s, Inv X pins σ H s → wpAny (model X.prog X.w) X.A (eval e X.env) (EP X pins σ Q) X.xe s
def RT (X : Cx) (e : Expr) (σ : L2.St) (H : Hp) (Q : Bool → Hp → Prop) : Prop := ∀ pins s, Inv X pins σ H s → wpAny (model X.prog X.w) X.A (isTrue e X.env (eval e X.env)) (TP X pins σ Q) X.xe s
def RA (X : Cx) (es : List Expr) (σ : L2.St) (H : Hp) (Q : List V → Hp → Prop) : Prop := ∀ pos pins s, Inv X pins σ H s → wpAny (model X.prog X.w) X.A (spliced (backTo pos (starEach es X.env))) (AP X pins σ Q) X.xe s
def RS (X : Cx) (st : Stmt) (σ : L2.St) (H : Hp) (D : Ends) : Prop := ∀ pins s, Inv X pins σ H s → wpAny (model X.prog X.w) X.A (exec st X.env) (SP X pins D) X.xe s
def RB (X : Cx) (st : List Stmt) (σ : L2.St) (H : Hp) (D : Ends) : Prop := ∀ pins s, Inv X pins σ H s → wpAny (model X.prog X.w) X.A (execs st X.env) (SP X pins D) X.xe s
section
variable {X : Cx} {e : Expr} {es : List Expr} {st : Stmt} {sts : List Stmt}
/-- each piece of syntax has its runs as a reading -/
theorem cE : PE X e (RE X e) := ⟨fun pins s _ _ _ I h => h pins s I⟩
theorem cT : PT X e (RT X e) := ⟨fun pins s _ _ _ I h => h pins s I⟩
theorem cA : PA X es (RA X es) := ⟨fun pos pins s _ _ _ I h => h pos pins s I⟩
theorem cS : PS X st (fun D σ H => RS X st σ H D) := ⟨fun pins s _ _ _ I h => h pins s I⟩
theorem cB : PSs X sts (fun D σ H => RB X sts σ H D) := ⟨fun pins s _ _ _ I h => h pins s I⟩
theorem RE.of {t : TE} (h : PE X e t) {σ : L2.St} {H : Hp} {Q : VK} (q : t σ H Q) : RE X e σ H Q := fun pins s I => h.run pins s σ H Q I q
theorem RT.of {t : TT} (h : PT X e t) {σ : L2.St} {H : Hp} {Q : Bool → Hp → Prop} (q : t σ H Q) : RT X e σ H Q := fun pins s I => h.run pins s σ H Q I q
theorem RA.of {t : TA} (h : PA X es t) {σ : L2.St} {H : Hp} {Q : List V → Hp → Prop} (q : t σ H Q) : RA X es σ H Q := fun pos pins s I => h.run pos pins s σ H Q I q
theorem RS.of {t : TS} (h : PS X st t) {σ : L2.St} {H : Hp} {D : Ends} (q : t D σ H) : RS X st σ H D := fun pins s I => h.run pins s σ H D I q
theorem RB.of {t : TS} (h : PSs X sts t) {σ : L2.St} {H : Hp} {D : Ends} (q : t D σ H) : RB X sts σ H D := fun pins s I => h.run pins s σ H D I q
theorem RE.imp {σ : L2.St} {H : Hp} {Q Q' : VK} (h : RE X e σ H Q) (q : ∀ v H', Q v H' → Q' v H') : RE X e σ H Q' := fun pins s I =>
  thn (h pins s I) fun _ _ ⟨v, H', I', r, z⟩ => ⟨v, H', I', r, q v H' z⟩
end

/-! ### what an expression gives, over a base that may grow; all else of the heap stays -/
/-- some data with P -/
def EN (X : Cx) (e : Expr) (σ : L2.St) (B : Hp) (P : D → Prop) : Prop :=
  ∀ B1 H, Ex B B1 → Ex B1 H → ∀ Q : VK, (∀ v d B' H', Step B1 H B' H' → P d → Rp X.K B' d v → Q v H') → RE X e σ H Q
def ET (X : Cx) (e : Expr) (σ : L2.St) (B : Hp) (P : Bool → Prop) : Prop :=
  ∀ B1 H, Ex B B1 → Ex B1 H → ∀ Q : Bool → Hp → Prop, (∀ b B' H', Step B1 H B' H' → P b → Q b H') → RT X e σ H Q
def EA (X : Cx) (es : List Expr) (σ : L2.St) (B : Hp) (P : List D → Prop) : Prop :=
  ∀ B1 H, Ex B B1 → Ex B1 H → ∀ Q : List V → Hp → Prop, (∀ vs ds B' H', Step B1 H B' H' → P ds → RpL X.K B' ds vs → Q vs H') → RA X es σ H Q
/-- a new list of one's own, its items -/
def EF (X : Cx) (e : Expr) (σ : L2.St) (B : Hp) (P : List D → Prop) : Prop :=
  ∀ B1 H, Ex B B1 → Ex B1 H → ∀ Q : VK, (∀ p ds vs B' H', Step B1 H B' H' → H p = none → B' p = none → H' p = some (.lst vs) → P ds → RpL X.K B' ds vs → Q (.ref p) H') → RE X e σ H Q
section
variable {X : Cx} {e a b c : Expr} {es : List Expr} {σ : L2.St} {B B' : Hp} {P P' : D → Prop} {PL PL' : List D → Prop} {PB : Bool → Prop}
theorem EN.mono (h : EN X e σ B P) (x : Ex B B') : EN X e σ B' P := fun B1 H e1 e2 => h B1 H (x.trans e1) e2
theorem ET.mono (h : ET X e σ B PB) (x : Ex B B') : ET X e σ B' PB := fun B1 H e1 e2 => h B1 H (x.trans e1) e2
theorem EA.mono (h : EA X es σ B PL) (x : Ex B B') : EA X es σ B' PL := fun B1 H e1 e2 => h B1 H (x.trans e1) e2
theorem EF.mono (h : EF X e σ B PL) (x : Ex B B') : EF X e σ B' PL := fun B1 H e1 e2 => h B1 H (x.trans e1) e2
theorem EN.imp (h : EN X e σ B P) (q : ∀ d, P d → P' d) : EN X e σ B P' := fun B1 H e1 e2 Q k => h B1 H e1 e2 Q fun v d B' H' s p r => k v d B' H' s (q d p) r
theorem EN.eq {d d' : D} (h : EN X e σ B (Eq d)) (q : d = d') : EN X e σ B (Eq d') := q ▸ h
theorem ET.imp {PB' : Bool → Prop} (h : ET X e σ B PB) (q : ∀ d, PB d → PB' d) : ET X e σ B PB' := fun B1 H e1 e2 Q k => h B1 H e1 e2 Q fun b B' H' s p => k b B' H' s (q b p)
theorem ET.eq {d d' : Bool} (h : ET X e σ B (Eq d)) (q : d = d') : ET X e σ B (Eq d') := q ▸ h
theorem EA.imp (h : EA X es σ B PL) (q : ∀ d, PL d → PL' d) : EA X es σ B PL' := fun B1 H e1 e2 Q k => h B1 H e1 e2 Q fun v d B' H' s p r => k v d B' H' s (q d p) r
theorem EF.imp (h : EF X e σ B PL) (q : ∀ d, PL d → PL' d) : EF X e σ B PL' := fun B1 H e1 e2 Q k => h B1 H e1 e2 Q fun p ds vs B' H' s h0 h1 h2 pl r => k p ds vs B' H' s h0 h1 h2 (q ds pl) r
/-- a list of one's own is shared at once -/
theorem EF.sh (h : EF X e σ B PL) : EN X e σ B (fun d => ∃ ds, d = .lst ds ∧ PL ds) := fun B1 H e1 e2 Q k => h B1 H e1 e2 Q fun p ds vs B' H' s h0 h1 h2 pl r =>
  k (.ref p) (.lst ds) _ H' (s.share h0 h1 h2) ⟨ds, rfl, pl⟩ (by
    simp only [Rp]
    exact ⟨p, vs, rfl, upd_same, r.mono (Ex.new h1)⟩)
theorem EF.shEq {ds : List D} (h : EF X e σ B (Eq ds)) : EN X e σ B (Eq (.lst ds)) := h.sh.imp fun _ ⟨_, q, z⟩ => by rw [q, z]

/-! names and constants -/
theorem en_var {i : Nat} {x : Str} {pos : Pos} {v : V} {d : D} (h : σ[i]? = some (some v)) (r : Rp X.K B d v) (hN : X.N[i]? = some x := by rfl) (hv : Vis X.env.scope x := by first | exact Or.inl rfl | exact Or.inr (Or.inl rfl) | exact Or.inr (Or.inr rfl))
    (hd : (x == ("__debug__" : Str)) = false := by decide) (hcd : (x == ("__classdict__" : Str)) = false := by decide) : EN X (.Name x pos) σ B (Eq d) := fun B1 H e1 e2 Q k =>
  RE.of (pe_var hN hv hd hcd) ⟨v, h, k v d B1 H (Step.refl e2) rfl (r.mono e1)⟩
theorem en_int {i : Int} {j : Nat} {pos : Pos} : EN X (.Constant (.int i) j pos) σ B (Eq (.int i)) := fun B1 H _ e2 Q k => RE.of pe_int (k _ _ B1 H (Step.refl e2) rfl (by simp only [Rp]))
theorem en_bl {i : Bool} {j : Nat} {pos : Pos} : EN X (.Constant (.bool i) j pos) σ B (Eq (.bl i)) := fun B1 H _ e2 Q k => RE.of pe_bl (k _ _ B1 H (Step.refl e2) rfl (by simp only [Rp]))
theorem en_non {j : Nat} {pos : Pos} : EN X (.Constant .none j pos) σ B (Eq .non) := fun B1 H _ e2 Q k => RE.of pe_non (k _ _ B1 H (Step.refl e2) rfl (by simp only [Rp]))
theorem en_str {x : Str} {j : Nat} {pos : Pos} : EN X (.Constant (.str x) j pos) σ B (Eq (.str x)) := fun B1 H _ e2 Q k => RE.of pe_str (k _ _ B1 H (Step.refl e2) rfl (by simp only [Rp]))
/-- a constant of the module that is an int, a bool, a text, a class, a def -/
theorem en_glob {x : Str} {v : V} {d : D} {u : Value} {pos : Pos} (hm : X.mg x = some u) (r : RelV v u) (hd : Rp X.K (fun _ => none) d v) (hg : Gl X x := by rfl) (hdb : (x == ("__debug__" : Str)) = false := by decide) : EN X (.Name x pos) σ B (Eq d) := fun B1 H _ e2 Q k =>
  RE.of (pe_glob hg hm r hdb) (k v d B1 H (Step.refl e2) rfl (hd.mono (fun a o z => by cases z)))

/-! argument lists -/
theorem ea_nil : EA X [] σ B (Eq []) := fun B1 H _ e2 Q k => RA.of pa_nil (k [] [] B1 H (Step.refl e2) rfl RpL.nil)
theorem ea_consN (h : EN X e σ B P) (t : EA X es σ B PL) (hs : starEach (e :: es) X.env = (false, eval e X.env) :: starEach es X.env := by rfl) : EA X (e :: es) σ B (fun l => ∃ d ds, l = d :: ds ∧ P d ∧ PL ds) := fun B1 H e1 e2 Q k =>
  RA.of (pa_cons cE cA hs) (h B1 H e1 e2 _ fun v d B' H' s p r => t B' H' (e1.trans s.b) s.bh _ fun vs ds B'' H'' s' p' r' => k (v :: vs) (d :: ds) B'' H'' (s.trans s') ⟨d, ds, rfl, p, p'⟩ (RpL.cons (r.mono s'.b) r'))
theorem ea_cons {d : D} {ds : List D} (h : EN X e σ B (Eq d)) (t : EA X es σ B (Eq ds)) (hs : starEach (e :: es) X.env = (false, eval e X.env) :: starEach es X.env := by rfl) : EA X (e :: es) σ B (Eq (d :: ds)) :=
  (ea_consN h t hs).imp fun _ ⟨_, _, q, z, z'⟩ => by rw [q, z, z']

/-! displays -/
theorem ef_lst {pos : Pos} (h : EA X es σ B PL) (hl : ∀ ds, PL ds → ds.length ≤ sizeLine) : EF X (.List es pos) σ B PL := fun B1 H e1 e2 Q k =>
  RE.of (pe_lst cA) (h B1 H e1 e2 _ fun vs ds B' H' s p r => ⟨by rw [← r.length]; exact hl ds p, fun q hq => k q ds vs B' _ (s.trans (Step.own s.bh hq)) (s.h.back hq) (s.bh.back hq) upd_same p r⟩)
theorem en_tupN {pos : Pos} {x1} (h : EA X es σ B PL) (hl : ∀ ds, PL ds → ds.length ≤ sizeLine) : EN X (.Tuple es x1 pos) σ B (fun d => ∃ ds, d = .tup ds ∧ PL ds) := fun B1 H e1 e2 Q k =>
  RE.of (pe_tup cA) (h B1 H e1 e2 _ fun vs ds B' H' s p r => ⟨by rw [← r.length]; exact hl ds p, fun q hq =>
    k (.ref q) (.tup ds) _ _ (s.trans (Step.alloc s.bh hq)) ⟨ds, rfl, p⟩ (by simp only [Rp]; exact ⟨q, vs, rfl, SqT.of upd_same, r.mono (Ex.new (s.bh.back hq))⟩)⟩)
theorem en_tup {pos : Pos} {x1} {ds : List D} (h : EA X es σ B (Eq ds)) (hl : ds.length ≤ sizeLine := by decide) : EN X (.Tuple es x1 pos) σ B (Eq (.tup ds)) :=
  (en_tupN h (fun _ q => q ▸ hl)).imp fun _ ⟨_, q, z⟩ => by rw [q, z]
theorem en_lst {pos : Pos} {ds : List D} (h : EA X es σ B (Eq ds)) (hl : ds.length ≤ sizeLine := by decide) : EN X (.List es pos) σ B (Eq (.lst ds)) := (ef_lst h (fun _ q => q ▸ hl)).shEq

/-! ### operations by data -/
/-- an operation on the data x, y gives data with P (perhaps new) -/
def OD (X : Cx) (f : Value → Value → Sem Value) (x y : D) (P : D → Prop) : Prop :=
  ∃ r, OpR X f r ∧ ∀ v u B H (Q : VK), Ex B H → Rp X.K B x v → Rp X.K B y u → (∀ z d B' H', Step B H B' H' → P d → Rp X.K B' d z → Q z H') → r v u H Q
/-- .. a new list of one's own -/
def ODF (X : Cx) (f : Value → Value → Sem Value) (x y : D) (P : List D → Prop) : Prop :=
  ∃ r, OpR X f r ∧ ∀ v u B H (Q : VK), Ex B H → Rp X.K B x v → Rp X.K B y u → (∀ p ds vs B' H', Step B H B' H' → H p = none → B' p = none → H' p = some (.lst vs) → P ds → RpL X.K B' ds vs → Q (.ref p) H') → r v u H Q
theorem run_op {f : Value → Value → Sem Value} {x y : D} {v u : V} {vv uu : Value} {H : Hp} {B : Hp} {Q : VK} {pins : List (Addr × Obj)} {s : Shared} (o : OD X f x y P) (I : Inv X pins σ H s) (e : Ex B H) (rx : Rp X.K B x v) (ry : Rp X.K B y u) (hx : RelV v vv) (hy : RelV u uu)
    (k : ∀ z d B' H', Step B H B' H' → P d → Rp X.K B' d z → Q z H') : wpAny (model X.prog X.w) X.A (f vv uu) (EP X pins σ Q) X.xe s := by
  obtain ⟨r, hr, q⟩ := o
  exact hr pins s σ H v u vv uu Q I hx hy (q v u B H Q e rx ry k)
variable {Pa Pb : D → Prop}
/-- two expressions, an operation of their values -/
theorem en_bin {f : Value → Value → Sem Value} {g : Expr} (hg : ∀ r, OpR X f r → PE X g (tOp r (RE X a) (RE X b))) (ha : EN X a σ B Pa) (hb : EN X b σ B Pb) (o : ∀ x y, Pa x → Pb y → OD X f x y P) : EN X g σ B P := fun B1 H e1 e2 Q k => by
  -- the rule must be chosen ahead of the run: the disjunction over all data
  let R : R2 := fun v u H Q => ∃ x y B, Pa x ∧ Pb y ∧ Ex B H ∧ Rp X.K B x v ∧ Rp X.K B y u ∧ ∀ z d B' H', Step B H B' H' → P d → Rp X.K B' d z → Q z H'
  have hR : OpR X f R := fun pins s σ H v u vv uu Q I hx hy ⟨x, y, B, px, py, e, rx, ry, k⟩ => run_op (o x y px py) I e rx ry hx hy k
  exact RE.of (hg R hR) (ha B1 H e1 e2 _ fun v x B2 H2 s p r => hb B2 H2 (e1.trans s.b) s.bh _ fun u y B3 H3 s' p' r' =>
    ⟨x, y, B3, p, p', s'.bh, r.mono s'.b, r', fun z d B' H' s'' pd rd => k z d B' H' ((s.trans s').trans s'') pd rd⟩)
theorem en_op {op : Operator} {pos : Pos} (ha : EN X a σ B Pa) (hb : EN X b σ B Pb) (o : ∀ x y, Pa x → Pb y → OD X (binaryOp op) x y P) : EN X (.BinOp a op b pos) σ B P :=
  en_bin (f := binaryOp op) (fun r hr => pe_op hr cE cE) ha hb o
theorem en_cmp {op : CmpOp} {pos : Pos} (ha : EN X a σ B Pa) (hb : EN X b σ B Pb) (o : ∀ x y, Pa x → Pb y → OD X (compareOp op) x y P) (hm : behindInMarks op b = false := by first | exact nomark _ | rfl) : EN X (.Compare a [op] [b] pos) σ B P :=
  en_bin (f := compareOp op) (fun r hr => pe_cmpR hr cE cE hm) ha hb o
theorem ed_op {op : Operator} {pos : Pos} {x y : D} (ha : EN X a σ B (Eq x)) (hb : EN X b σ B (Eq y)) (o : OD X (binaryOp op) x y P) : EN X (.BinOp a op b pos) σ B P := en_op ha hb fun _ _ p q => p ▸ q ▸ o
theorem ed_cmp {op : CmpOp} {pos : Pos} {x y : D} (ha : EN X a σ B (Eq x)) (hb : EN X b σ B (Eq y)) (o : OD X (compareOp op) x y P) (hm : behindInMarks op b = false := by first | exact nomark _ | rfl) : EN X (.Compare a [op] [b] pos) σ B P := en_cmp ha hb (fun _ _ p q => p ▸ q ▸ o) hm
/-- .. that gives a new list -/
theorem ef_op {op : Operator} {pos : Pos} {PL : List D → Prop} (ha : EN X a σ B Pa) (hb : EN X b σ B Pb) (o : ∀ x y, Pa x → Pb y → ODF X (binaryOp op) x y PL) : EF X (.BinOp a op b pos) σ B PL := fun B1 H e1 e2 Q k => by
  let R : R2 := fun v u H Q => ∃ x y B, Pa x ∧ Pb y ∧ Ex B H ∧ Rp X.K B x v ∧ Rp X.K B y u ∧ ∀ p ds vs B' H', Step B H B' H' → H p = none → B' p = none → H' p = some (.lst vs) → PL ds → RpL X.K B' ds vs → Q (.ref p) H'
  have hR : OpR X (binaryOp op) R := fun pins s σ H v u vv uu Q I hx hy ⟨x, y, B, px, py, e, rx, ry, k⟩ => by
    obtain ⟨r, hr, q⟩ := o x y px py
    exact hr pins s σ H v u vv uu Q I hx hy (q v u B H Q e rx ry k)
  exact RE.of (pe_op hR cE cE) (ha B1 H e1 e2 _ fun v x B2 H2 s p r => hb B2 H2 (e1.trans s.b) s.bh _ fun u y B3 H3 s' p' r' =>
    ⟨x, y, B3, p, p', s'.bh, r.mono s'.b, r', fun q ds vs B' H' s'' h0 h1 h2 pd rd => k q ds vs B' H' ((s.trans s').trans s'') ((s.trans s').h.back h0) h1 h2 pd rd⟩)

/-- a built-in's call on the data ds gives data with P -/
def CD (X : Cx) (f : Value) (ds : List D) (P : D → Prop) : Prop :=
  ∃ r, CallR X f r ∧ ∀ vs B H (Q : VK), Ex B H → RpL X.K B ds vs → (∀ z d B' H', Step B H B' H' → P d → Rp X.K B' d z → Q z H') → r vs H Q
def CDF (X : Cx) (f : Value) (ds : List D) (P : List D → Prop) : Prop :=
  ∃ r, CallR X f r ∧ ∀ vs B H (Q : VK), Ex B H → RpL X.K B ds vs → (∀ p es ws B' H', Step B H B' H' → H p = none → B' p = none → H' p = some (.lst ws) → P es → RpL X.K B' es ws → Q (.ref p) H') → r vs H Q
theorem en_callG {f : Value} {g : Expr} (hg : ∀ r, CallR X f r → PE X g (tCB r (RA X es))) (ha : EA X es σ B PL) (o : ∀ ds, PL ds → CD X f ds P) : EN X g σ B P := fun B1 H e1 e2 Q k => by
  let R : List V → Hp → VK → Prop := fun vs H Q => ∃ ds B, PL ds ∧ Ex B H ∧ RpL X.K B ds vs ∧ ∀ z d B' H', Step B H B' H' → P d → Rp X.K B' d z → Q z H'
  have hR : CallR X f R := fun pins s σ H vs us Q I hv ⟨ds, B, p, e, r, k⟩ => by
    obtain ⟨r', hr, q⟩ := o ds p
    exact hr pins s σ H vs us Q I hv (q vs B H Q e r k)
  exact RE.of (hg R hR) (ha B1 H e1 e2 _ fun vs ds B2 H2 s p r => ⟨ds, B2, p, s.bh, r, fun z d B' H' s'' pd rd => k z d B' H' (s.trans s'') pd rd⟩)
theorem ef_callG {f : Value} {g : Expr} {PR : List D → Prop} (hg : ∀ r, CallR X f r → PE X g (tCB r (RA X es))) (ha : EA X es σ B PL) (o : ∀ ds, PL ds → CDF X f ds PR) : EF X g σ B PR := fun B1 H e1 e2 Q k => by
  let R : List V → Hp → VK → Prop := fun vs H Q => ∃ ds B, PL ds ∧ Ex B H ∧ RpL X.K B ds vs ∧ ∀ p es ws B' H', Step B H B' H' → H p = none → B' p = none → H' p = some (.lst ws) → PR es → RpL X.K B' es ws → Q (.ref p) H'
  have hR : CallR X f R := fun pins s σ H vs us Q I hv ⟨ds, B, p, e, r, k⟩ => by
    obtain ⟨r', hr, q⟩ := o ds p
    exact hr pins s σ H vs us Q I hv (q vs B H Q e r k)
  exact RE.of (hg R hR) (ha B1 H e1 e2 _ fun vs ds B2 H2 s p r => ⟨ds, B2, p, s.bh, r, fun q es ws B' H' s'' h0 h1 h2 pd rd => k q es ws B' H' (s.trans s'') (s.h.back h0) h1 h2 pd rd⟩)
variable {x : Str} {p pos : Pos} {id : String}
/-- f(..) of a built-in function, of a built-in class -/
theorem en_callB (hm : X.mg x = none) (hv : bootBuiltins x = some (.builtin id)) (ha : EA X (e :: es) σ B PL) (o : ∀ ds, PL ds → CD X (.builtin id) ds P) (hg : Gl X x := by rfl) (hn : x ≠ "__name__" := by decide) (hdb : (x == ("__debug__" : Str)) = false := by decide) (he : starEach (e :: es) X.env = (false, eval e X.env) :: starEach es X.env := by rfl) (hpl : (backTo pos (starEach es X.env)).any (·.1) = false := by rfl) : EN X (.Call (.Name x p) (e :: es) [] pos) σ B P :=
  en_callG (fun r hr => pe_callB hr hg hm hv cA hn hdb he hpl) ha o
theorem en_callTy (hm : X.mg x = none) (hv : bootBuiltins x = some (.type id)) (ha : EA X (e :: es) σ B PL) (o : ∀ ds, PL ds → CD X (.type id) ds P) (hg : Gl X x := by rfl) (hn : x ≠ "__name__" := by decide) (hdb : (x == ("__debug__" : Str)) = false := by decide) (he : starEach (e :: es) X.env = (false, eval e X.env) :: starEach es X.env := by rfl) (hpl : (backTo pos (starEach es X.env)).any (·.1) = false := by rfl) : EN X (.Call (.Name x p) (e :: es) [] pos) σ B P :=
  en_callG (fun r hr => pe_callTy hr hg hm hv cA hn hdb he hpl) ha o
theorem ef_callB {PR : List D → Prop} (hm : X.mg x = none) (hv : bootBuiltins x = some (.builtin id)) (ha : EA X (e :: es) σ B PL) (o : ∀ ds, PL ds → CDF X (.builtin id) ds PR) (hg : Gl X x := by rfl) (hn : x ≠ "__name__" := by decide) (hdb : (x == ("__debug__" : Str)) = false := by decide) (he : starEach (e :: es) X.env = (false, eval e X.env) :: starEach es X.env := by rfl) (hpl : (backTo pos (starEach es X.env)).any (·.1) = false := by rfl) : EF X (.Call (.Name x p) (e :: es) [] pos) σ B PR :=
  ef_callG (fun r hr => pe_callB hr hg hm hv cA hn hdb he hpl) ha o
theorem ef_callTy {PR : List D → Prop} (hm : X.mg x = none) (hv : bootBuiltins x = some (.type id)) (ha : EA X (e :: es) σ B PL) (o : ∀ ds, PL ds → CDF X (.type id) ds PR) (hg : Gl X x := by rfl) (hn : x ≠ "__name__" := by decide) (hdb : (x == ("__debug__" : Str)) = false := by decide) (he : starEach (e :: es) X.env = (false, eval e X.env) :: starEach es X.env := by rfl) (hpl : (backTo pos (starEach es X.env)).any (·.1) = false := by rfl) : EF X (.Call (.Name x p) (e :: es) [] pos) σ B PR :=
  ef_callG (fun r hr => pe_callTy hr hg hm hv cA hn hdb he hpl) ha o
end
end Fx
set_option Elab.async false
set_option linter.all false
set_option maxRecDepth 100000
set_option maxHeartbeats 2000000
/-! Fx, part 3: operations, tests, subscripts, slices, built-ins by data. -/
namespace Fx
open PySem L2

theorem Rp.int {K : PySem.W.Frag} {H : Hp} {i : Int} {v : V} : Rp K H (.int i) v ↔ v = .int i := by simp only [Rp]
theorem Rp.str {K : PySem.W.Frag} {H : Hp} {i : Str} {v : V} : Rp K H (.str i) v ↔ v = .str i := by simp only [Rp]
theorem Rp.bl {K : PySem.W.Frag} {H : Hp} {i : Bool} {v : V} : Rp K H (.bl i) v ↔ v = .bl i := by simp only [Rp]
theorem Rp.non {K : PySem.W.Frag} {H : Hp} {v : V} : Rp K H .non v ↔ v = .non := by simp only [Rp]
theorem Rp.lst {K : PySem.W.Frag} {H : Hp} {ds : List D} {v : V} : Rp K H (.lst ds) v ↔ ∃ a xs, v = .ref a ∧ H a = some (.lst xs) ∧ RpL K H ds xs := by simp only [Rp]
theorem Rp.tup {K : PySem.W.Frag} {H : Hp} {ds : List D} {v : V} : Rp K H (.tup ds) v ↔ ∃ a xs, v = .ref a ∧ SqT K H a xs ∧ RpL K H ds xs := by simp only [Rp]

section
variable {X : Cx} {P : D → Prop}

/-! ### ints, texts -/
theorem od_I0 {f : Value → Value → Sem Value} {g : Int → Int → V} {d : Int → Int → D} (h : OpR X f (rI0 g)) (hd : ∀ i j K H, Rp K H (d i j) (g i j)) {i j : Int} : OD X f (.int i) (.int j) (Eq (d i j)) :=
  ⟨_, h, fun v u B H Q e rx ry k => ⟨i, j, Rp.int.mp rx, Rp.int.mp ry, k _ _ B H (Step.refl e) rfl (hd _ _ _ _)⟩⟩
theorem od_I {f : Value → Value → Sem Value} {C : Int → Int → Prop} {g : Int → Int → V} {d : Int → Int → D} (h : OpR X f (rI C g)) (hd : ∀ i j K H, Rp K H (d i j) (g i j)) {i j : Int} (hc : C i j) : OD X f (.int i) (.int j) (Eq (d i j)) :=
  ⟨_, h, fun v u B H Q e rx ry k => ⟨i, j, Rp.int.mp rx, Rp.int.mp ry, hc, k _ _ B H (Step.refl e) rfl (hd _ _ _ _)⟩⟩
theorem od_add {i j : Int} : OD X (binaryOp .Add) (.int i) (.int j) (Eq (.int (i + j))) := od_I0 (d := fun i j => .int (i + j)) op_add (fun _ _ _ _ => Rp.int.mpr rfl)
theorem od_sub {i j : Int} : OD X (binaryOp .Sub) (.int i) (.int j) (Eq (.int (i - j))) := od_I0 (d := fun i j => .int (i - j)) op_sub (fun _ _ _ _ => Rp.int.mpr rfl)
theorem od_mul {i j : Int} (h : CMul i j) : OD X (binaryOp .Mult) (.int i) (.int j) (Eq (.int (i * j))) := od_I (d := fun i j => .int (i * j)) op_mul (fun _ _ _ _ => Rp.int.mpr rfl) h
theorem od_mod {i j : Int} (h : 0 < j) : OD X (binaryOp .Mod) (.int i) (.int j) (Eq (.int (i % j))) := od_I (d := fun i j => .int (i % j)) op_mod (fun _ _ _ _ => Rp.int.mpr rfl) h
theorem od_fdiv {i j : Int} (h : CDiv i j) : OD X (binaryOp .FloorDiv) (.int i) (.int j) (Eq (.int (i / j))) := od_I (d := fun i j => .int (i / j)) op_fdiv (fun _ _ _ _ => Rp.int.mpr rfl) h
theorem od_pow {i j : Int} (h : CPow i j) : OD X (binaryOp .Pow) (.int i) (.int j) (Eq (.int (i ^ j.toNat))) := od_I (d := fun i j => .int (i ^ j.toNat)) op_pow (fun _ _ _ _ => Rp.int.mpr rfl) h
theorem od_lt {i j : Int} : OD X (compareOp .Lt) (.int i) (.int j) (Eq (.bl (decide (i < j)))) := od_I0 (d := fun i j => .bl (decide (i < j))) op_lt (fun _ _ _ _ => Rp.bl.mpr rfl)
theorem od_le {i j : Int} : OD X (compareOp .LtE) (.int i) (.int j) (Eq (.bl (decide (i ≤ j)))) := od_I0 (d := fun i j => .bl (decide (i ≤ j))) op_le (fun _ _ _ _ => Rp.bl.mpr rfl)
theorem od_gt {i j : Int} : OD X (compareOp .Gt) (.int i) (.int j) (Eq (.bl (decide (j < i)))) := od_I0 (d := fun i j => .bl (decide (j < i))) op_gt (fun _ _ _ _ => Rp.bl.mpr rfl)
theorem od_ge {i j : Int} : OD X (compareOp .GtE) (.int i) (.int j) (Eq (.bl (decide (j ≤ i)))) := od_I0 (d := fun i j => .bl (decide (j ≤ i))) op_ge (fun _ _ _ _ => Rp.bl.mpr rfl)
/-- data without an address -/
def D.sc : D → Option V
  | .non => some .non | .bl b => some (.bl b) | .int i => some (.int i) | .str x => some (.str x) | _ => none
theorem Rp.sc {K : PySem.W.Frag} {H : Hp} : ∀ {d : D} {v w : V}, Rp K H d v → d.sc = some w → v = w := by
  intro d v w r h
  cases d <;> simp only [D.sc, Rp] at h r <;> first | (cases h; exact r) | exact nomatch h
theorem od_eqS {x y : D} {v w : V} (hx : x.sc = some v) (hy : y.sc = some w) (hs : scal v w = true) : OD X (compareOp .Eq) x y (Eq (.bl (decide (v = w)))) :=
  ⟨_, op_eq, fun a b B H Q e rx ry k => by
    rw [rx.sc hx, ry.sc hy]
    exact ⟨hs, k _ _ B H (Step.refl e) rfl (Rp.bl.mpr rfl)⟩⟩
theorem od_neS {x y : D} {v w : V} (hx : x.sc = some v) (hy : y.sc = some w) (hs : scal v w = true) : OD X (compareOp .NotEq) x y (Eq (.bl (!decide (v = w)))) :=
  ⟨_, op_ne, fun a b B H Q e rx ry k => by
    rw [rx.sc hx, ry.sc hy]
    exact ⟨hs, k _ _ B H (Step.refl e) rfl (Rp.bl.mpr rfl)⟩⟩
theorem od_eqI {i j : Int} : OD X (compareOp .Eq) (.int i) (.int j) (Eq (.bl (decide (i = j)))) := by
  have h := od_eqS (X := X) (x := .int i) (y := .int j) rfl rfl rfl
  rwa [show decide (V.int i = V.int j) = decide (i = j) from by simp] at h
theorem od_neI {i j : Int} : OD X (compareOp .NotEq) (.int i) (.int j) (Eq (.bl (!decide (i = j)))) := by
  have h := od_neS (X := X) (x := .int i) (y := .int j) rfl rfl rfl
  rwa [show decide (V.int i = V.int j) = decide (i = j) from by simp] at h
theorem od_eqT {i j : Str} : OD X (compareOp .Eq) (.str i) (.str j) (Eq (.bl (decide (i = j)))) := by
  have h := od_eqS (X := X) (x := .str i) (y := .str j) rfl rfl rfl
  rwa [show decide (V.str i = V.str j) = decide (i = j) from by simp] at h
theorem od_neT {i j : Str} : OD X (compareOp .NotEq) (.str i) (.str j) (Eq (.bl (!decide (i = j)))) := by
  have h := od_neS (X := X) (x := .str i) (y := .str j) rfl rfl rfl
  rwa [show decide (V.str i = V.str j) = decide (i = j) from by simp] at h
theorem od_eqB {i j : Bool} : OD X (compareOp .Eq) (.bl i) (.bl j) (Eq (.bl (decide (i = j)))) := by
  have h := od_eqS (X := X) (x := .bl i) (y := .bl j) rfl rfl rfl
  rwa [show decide (V.bl i = V.bl j) = decide (i = j) from by simp] at h
theorem od_neB {i j : Bool} : OD X (compareOp .NotEq) (.bl i) (.bl j) (Eq (.bl (!decide (i = j)))) := by
  have h := od_neS (X := X) (x := .bl i) (y := .bl j) rfl rfl rfl
  rwa [show decide (V.bl i = V.bl j) = decide (i = j) from by simp] at h
theorem od_addS {i j : Str} (h : i.length + j.length ≤ sizeLine) : OD X (binaryOp .Add) (.str i) (.str j) (Eq (.str (i ++ j))) :=
  ⟨_, op_add_str, fun v u B H Q e rx ry k => ⟨i, j, Rp.str.mp rx, Rp.str.mp ry, h, k _ _ B H (Step.refl e) rfl (Rp.str.mpr rfl)⟩⟩
theorem od_ltS {i j : Str} : OD X (compareOp .Lt) (.str i) (.str j) (Eq (.bl (decide (i.cps.toList < j.cps.toList)))) :=
  ⟨_, op_lt_str, fun v u B H Q e rx ry k => ⟨i, j, Rp.str.mp rx, Rp.str.mp ry, k _ _ B H (Step.refl e) rfl (Rp.bl.mpr rfl)⟩⟩
/-- one sign in a text -/
theorem od_inC {c : Nat} {z : Str} : OD X (compareOp .In) (.str ⟨#[c]⟩) (.str z) (Eq (.bl (decide (c ∈ z.cps.toList)))) :=
  ⟨_, op_in_sign, fun v u B H Q e rx ry k => ⟨c, z, Rp.str.mp rx, Rp.str.mp ry, k _ _ B H (Step.refl e) rfl (Rp.bl.mpr rfl)⟩⟩
/-- None -/
def D.isNon : D → Bool
  | .non => true | _ => false
theorem Rp.isNon {K : PySem.W.Frag} {H : Hp} {d : D} {v : V} (r : Rp K H d v) : decide (v = .non) = d.isNon := by
  cases d with
  | non => simp only [Rp] at r; subst r; rfl
  | bl _ => simp only [Rp] at r; subst r; rfl
  | int _ => simp only [Rp] at r; subst r; rfl
  | str _ => simp only [Rp] at r; subst r; rfl
  | ref _ => simp only [Rp] at r; subst r; rfl
  | ty _ => simp only [Rp] at r; subst r; rfl
  | lst _ => simp only [Rp] at r; obtain ⟨_, _, rfl, _⟩ := r; rfl
  | tup _ => simp only [Rp] at r; obtain ⟨_, _, rfl, _⟩ := r; rfl
  | obj _ _ => simp only [Rp] at r; obtain ⟨_, _, _, rfl, _⟩ := r; rfl
  | dic _ => simp only [Rp] at r; obtain ⟨_, _, rfl, _⟩ := r; rfl
  | pot => simp only [Rp] at r; obtain ⟨_, rfl, _⟩ := r; rfl
  | scr _ => simp only [Rp] at r; obtain ⟨_, rfl, _⟩ := r; rfl
theorem od_isN {x : D} : OD X (compareOp .Is) x .non (Eq (.bl x.isNon)) :=
  ⟨_, op_isN, fun v u B H Q e rx ry k => ⟨Rp.non.mp ry, k _ _ B H (Step.refl e) rfl (by rw [rx.isNon]; exact Rp.bl.mpr rfl)⟩⟩
theorem od_notN {x : D} : OD X (compareOp .IsNot) x .non (Eq (.bl (!x.isNon))) :=
  ⟨_, op_notN, fun v u B H Q e rx ry k => ⟨Rp.non.mp ry, k _ _ B H (Step.refl e) rfl (by rw [rx.isNon]; exact Rp.bl.mpr rfl)⟩⟩

/-! ### == of plain data, by the library's own look -/
mutual
def D.py : D → PyData
  | .non => .none | .bl b => .bool b | .int i => .int i | .str x => .str x
  | .lst ds => .list (D.pys ds) | .tup ds => .tuple (D.pys ds)
  | _ => .none
def D.pys : List D → List PyData
  | [] => [] | d :: ds => d.py :: D.pys ds
end
mutual
/-- None, bools, ints, texts, lists and tuples alone -/
def D.plain : D → Bool
  | .non => true | .bl _ => true | .int _ => true | .str _ => true
  | .lst ds => D.plains ds | .tup ds => D.plains ds
  | _ => false
def D.plains : List D → Bool
  | [] => true | d :: ds => d.plain && D.plains ds
end
mutual
theorem Rp.dp {K : PySem.W.Frag} {H : Hp} : ∀ {d : D} {v : V}, d.plain = true → Rp K H d v → Dp K H v d.py
  | .non, _, _, r => by rw [Rp.non.mp r]; simp only [D.py]; exact .non
  | .bl b, _, _, r => by rw [Rp.bl.mp r]; simp only [D.py]; exact .bl b
  | .int b, _, _, r => by rw [Rp.int.mp r]; simp only [D.py]; exact .int b
  | .str b, _, _, r => by rw [Rp.str.mp r]; simp only [D.py]; exact .str b
  | .lst ds, _, h, r => by
    obtain ⟨a, xs, rfl, h1, h2⟩ := Rp.lst.mp r
    simp only [D.py]
    exact .lst (SqL.of h1) (RpL.dp (by simpa only [D.plain] using h) h2)
  | .tup ds, _, h, r => by
    obtain ⟨a, xs, rfl, h1, h2⟩ := Rp.tup.mp r
    simp only [D.py]
    exact .tup h1 (RpL.dp (by simpa only [D.plain] using h) h2)
  | .ref _, _, h, _ => by simp [D.plain] at h
  | .ty _, _, h, _ => by simp [D.plain] at h
  | .obj _ _, _, h, _ => by simp [D.plain] at h
  | .dic _, _, h, _ => by simp [D.plain] at h
  | .pot, _, h, _ => by simp [D.plain] at h
  | .scr _, _, h, _ => by simp [D.plain] at h
theorem RpL.dp {K : PySem.W.Frag} {H : Hp} : ∀ {ds : List D} {vs : List V}, D.plains ds = true → RpL K H ds vs → DpAll K H vs (D.pys ds)
  | [], _, _, r => by simp only [RpL] at r; subst r; simp only [D.pys]; exact .nil
  | d :: ds, _, h, r => by
    simp only [RpL] at r
    obtain ⟨v, t, rfl, h1, h2⟩ := r
    simp only [D.plains, Bool.and_eq_true] at h
    simp only [D.pys]
    exact .cons (Rp.dp h.1 h1) (RpL.dp h.2 h2)
end
theorem od_eqD {x y : D} (hu : X.A.units + 64 < cLine) (px : x.plain = true) (py : y.plain = true) (sx : SeqAt.shaped x.py = true) (sy : SeqAt.shaped y.py = true) : OD X (compareOp .Eq) x y (Eq (.bl (PyData.eqv x.py y.py))) :=
  ⟨_, op_eqD hu, fun v u B H Q e rx ry k => ⟨x.py, y.py, (rx.mono e).dp px, (ry.mono e).dp py, sx, sy, k _ _ B H (Step.refl e) rfl (Rp.bl.mpr rfl)⟩⟩
theorem od_neD {x y : D} (hu : X.A.units + 64 < cLine) (px : x.plain = true) (py : y.plain = true) (sx : SeqAt.shaped x.py = true) (sy : SeqAt.shaped y.py = true) : OD X (compareOp .NotEq) x y (Eq (.bl (!PyData.eqv x.py y.py))) :=
  ⟨_, op_neD hu, fun v u B H Q e rx ry k => ⟨x.py, y.py, (rx.mono e).dp px, (ry.mono e).dp py, sx, sy, k _ _ B H (Step.refl e) rfl (Rp.bl.mpr rfl)⟩⟩
/-- lists of texts -/
theorem pys_strs : ∀ ws : List Str, D.pys (D.strs ws) = ws.map PyData.str
  | [] => by simp only [D.strs, List.map_nil, D.pys]
  | w :: ws => by
    have ih := pys_strs ws
    simp only [D.strs, List.map_cons, D.pys, D.py] at ih ⊢
    rw [ih]
theorem plains_strs : ∀ ws : List Str, D.plains (D.strs ws) = true
  | [] => by simp only [D.strs, List.map_nil, D.plains]
  | w :: ws => by
    have ih := plains_strs ws
    simp only [D.strs, List.map_cons, D.plains, D.plain] at ih ⊢
    rw [ih]; rfl
theorem eqvAll_strs : ∀ ws us : List Str, PyData.eqvAll (ws.map PyData.str) (us.map PyData.str) = decide (ws = us)
  | [], [] => by simp [PyData.eqvAll]
  | [], _ :: _ => by simp [PyData.eqvAll]
  | _ :: _, [] => by simp [PyData.eqvAll]
  | w :: ws, u :: us => by
    simp only [List.map_cons, PyData.eqvAll, PyData.eqv, eqvAll_strs ws us]
    by_cases h : w = u <;> simp [h]
theorem layAll_strs : ∀ ws : List Str, (∀ w ∈ ws, PyData.strOk w = true) → PyData.canLayAll0 (ws.map PyData.str) = true
  | [], _ => by simp [PyData.canLayAll0]
  | w :: ws, h => by
    have h1 := h w List.mem_cons_self
    have h2 := layAll_strs ws fun y hy => h y (List.mem_cons_of_mem _ hy)
    simp [PyData.canLayAll0, PyData.canLay0, h1, h2]
theorem depthAll_strs : ∀ ws : List Str, PyData.depthAll (ws.map PyData.str) ≤ 1
  | [] => by simp [PyData.depthAll]
  | w :: ws => by
    have h := depthAll_strs ws
    simp [PyData.depthAll, PyData.depth]
    omega
theorem shaped_strs {ws : List Str} (h : ∀ w ∈ ws, PyData.strOk w = true) : SeqAt.shaped (.list (ws.map PyData.str)) = true ∧ SeqAt.shaped (.tuple (ws.map PyData.str)) = true := by
  have h1 := layAll_strs ws h
  have h2 := depthAll_strs ws
  constructor
  all_goals
    unfold SeqAt.shaped
    rw [Bool.and_eq_true]
    refine ⟨by simpa only [PyData.canLay0] using h1, decide_eq_true ?_⟩
    simp only [PyData.depth]
    omega
theorem od_eqLs {ws us : List Str} (hu : X.A.units + 64 < cLine) (h1 : ∀ w ∈ ws, PyData.strOk w = true) (h2 : ∀ w ∈ us, PyData.strOk w = true) : OD X (compareOp .Eq) (.lst (D.strs ws)) (.lst (D.strs us)) (Eq (.bl (decide (ws = us)))) := by
  have e1 : (D.lst (D.strs ws)).py = .list (ws.map PyData.str) := by simp only [D.py, pys_strs]
  have e2 : (D.lst (D.strs us)).py = .list (us.map PyData.str) := by simp only [D.py, pys_strs]
  have h := od_eqD (X := X) (x := .lst (D.strs ws)) (y := .lst (D.strs us)) hu (by simp only [D.plain, plains_strs]) (by simp only [D.plain, plains_strs]) (by rw [e1]; exact (shaped_strs h1).1) (by rw [e2]; exact (shaped_strs h2).1)
  rwa [e1, e2, PyData.eqv, eqvAll_strs] at h
theorem od_neLs {ws us : List Str} (hu : X.A.units + 64 < cLine) (h1 : ∀ w ∈ ws, PyData.strOk w = true) (h2 : ∀ w ∈ us, PyData.strOk w = true) : OD X (compareOp .NotEq) (.lst (D.strs ws)) (.lst (D.strs us)) (Eq (.bl (!decide (ws = us)))) := by
  have e1 : (D.lst (D.strs ws)).py = .list (ws.map PyData.str) := by simp only [D.py, pys_strs]
  have e2 : (D.lst (D.strs us)).py = .list (us.map PyData.str) := by simp only [D.py, pys_strs]
  have h := od_neD (X := X) (x := .lst (D.strs ws)) (y := .lst (D.strs us)) hu (by simp only [D.plain, plains_strs]) (by simp only [D.plain, plains_strs]) (by rw [e1]; exact (shaped_strs h1).1) (by rw [e2]; exact (shaped_strs h2).1)
  rwa [e1, e2, PyData.eqv, eqvAll_strs] at h
theorem od_eqTs {ws us : List Str} (hu : X.A.units + 64 < cLine) (h1 : ∀ w ∈ ws, PyData.strOk w = true) (h2 : ∀ w ∈ us, PyData.strOk w = true) : OD X (compareOp .Eq) (.tup (D.strs ws)) (.tup (D.strs us)) (Eq (.bl (decide (ws = us)))) := by
  have e1 : (D.tup (D.strs ws)).py = .tuple (ws.map PyData.str) := by simp only [D.py, pys_strs]
  have e2 : (D.tup (D.strs us)).py = .tuple (us.map PyData.str) := by simp only [D.py, pys_strs]
  have h := od_eqD (X := X) (x := .tup (D.strs ws)) (y := .tup (D.strs us)) hu (by simp only [D.plain, plains_strs]) (by simp only [D.plain, plains_strs]) (by rw [e1]; exact (shaped_strs h1).2) (by rw [e2]; exact (shaped_strs h2).2)
  rwa [e1, e2, PyData.eqv, eqvAll_strs] at h

/-! ### in, by flat items -/
theorem flats_strs (ws : List Str) : (ws.map V.str).all flatV = true := by simp [flatV]
theorem inV_strs (x : Str) (ws : List Str) : inV (.str x) (ws.map V.str) = decide (x ∈ ws) := by
  unfold inV
  rw [List.any_map]
  induction ws with
  | nil => simp
  | cons w ws ih =>
    rw [List.any_cons, ih]
    simp only [Function.comp, List.mem_cons]
    by_cases h : w = x
    · subst h; simp [eqV]
    · have h' : ¬ x = w := fun z => h z.symm
      simp [eqV, h, h']
theorem RpL.toStrs {K : PySem.W.Frag} {H : Hp} {ws : List Str} {vs : List V} (h : RpL K H (D.strs ws) vs) : vs = ws.map V.str := RpL.strs.mp h
theorem od_inLs {x : Str} {ws : List Str} : OD X (compareOp .In) (.str x) (.lst (D.strs ws)) (Eq (.bl (decide (x ∈ ws)))) :=
  ⟨_, op_in_seq, fun v u B H Q e rx ry k => by
    obtain ⟨a, xs, rfl, h1, h2⟩ := Rp.lst.mp ry
    cases Rp.str.mp rx
    cases h2.toStrs
    refine ⟨a, _, rfl, .inl (SqL.of (e _ _ h1)), rfl, flats_strs ws, k _ (.bl (decide (x ∈ ws))) B H (Step.refl e) rfl ?_⟩
    rw [if_neg Bool.false_ne_true, inV_strs]
    exact Rp.bl.mpr rfl⟩
theorem od_niLs {x : Str} {ws : List Str} : OD X (compareOp .NotIn) (.str x) (.lst (D.strs ws)) (Eq (.bl (!decide (x ∈ ws)))) :=
  ⟨_, op_notIn_seq, fun v u B H Q e rx ry k => by
    obtain ⟨a, xs, rfl, h1, h2⟩ := Rp.lst.mp ry
    cases Rp.str.mp rx
    cases h2.toStrs
    refine ⟨a, _, rfl, .inl (SqL.of (e _ _ h1)), rfl, flats_strs ws, k _ (.bl (!decide (x ∈ ws))) B H (Step.refl e) rfl ?_⟩
    rw [if_pos rfl, inV_strs]
    exact Rp.bl.mpr rfl⟩
theorem od_inTs {x : Str} {ws : List Str} : OD X (compareOp .In) (.str x) (.tup (D.strs ws)) (Eq (.bl (decide (x ∈ ws)))) :=
  ⟨_, op_in_seq, fun v u B H Q e rx ry k => by
    obtain ⟨a, xs, rfl, h1, h2⟩ := Rp.tup.mp ry
    cases Rp.str.mp rx
    cases h2.toStrs
    refine ⟨a, _, rfl, .inr (e.t h1), rfl, flats_strs ws, k _ (.bl (decide (x ∈ ws))) B H (Step.refl e) rfl ?_⟩
    rw [if_neg Bool.false_ne_true, inV_strs]
    exact Rp.bl.mpr rfl⟩
theorem od_niTs {x : Str} {ws : List Str} : OD X (compareOp .NotIn) (.str x) (.tup (D.strs ws)) (Eq (.bl (!decide (x ∈ ws)))) :=
  ⟨_, op_notIn_seq, fun v u B H Q e rx ry k => by
    obtain ⟨a, xs, rfl, h1, h2⟩ := Rp.tup.mp ry
    cases Rp.str.mp rx
    cases h2.toStrs
    refine ⟨a, _, rfl, .inr (e.t h1), rfl, flats_strs ws, k _ (.bl (!decide (x ∈ ws))) B H (Step.refl e) rfl ?_⟩
    rw [if_pos rfl, inV_strs]
    exact Rp.bl.mpr rfl⟩

/-! ### lists and tuples: +, * -/
theorem odf_cat {xs ys : List D} (h : xs.length + ys.length ≤ sizeLine) : ODF X (binaryOp .Add) (.lst xs) (.lst ys) (Eq (xs ++ ys)) :=
  ⟨_, op_cat, fun v u B H Q e rx ry k => by
    obtain ⟨a, vs, rfl, h1, h2⟩ := Rp.lst.mp rx
    obtain ⟨b, us, rfl, h3, h4⟩ := Rp.lst.mp ry
    exact ⟨a, b, vs, us, rfl, rfl, e _ _ h1, e _ _ h3, by rw [← h2.length, ← h4.length]; exact h, fun p hp => k p (xs ++ ys) _ B _ (Step.own e hp) hp (e.back hp) upd_same rfl (h2.append h4)⟩⟩
theorem odf_rep {xs : List D} {n : Int} (h1 : -(2 ^ 63) ≤ n) (h2 : n < 2 ^ 63) (h : xs.length * n.toNat ≤ sizeLine) : ODF X (binaryOp .Mult) (.lst xs) (.int n) (Eq (List.replicate n.toNat xs).flatten) :=
  ⟨_, op_rep, fun v u B H Q e rx ry k => by
    obtain ⟨a, vs, rfl, g1, g2⟩ := Rp.lst.mp rx
    cases Rp.int.mp ry
    refine ⟨a, n, vs, rfl, rfl, e _ _ g1, h1, h2, by rw [← g2.length]; exact h, fun p hp => k p _ _ B _ (Step.own e hp) hp (e.back hp) upd_same rfl ?_⟩
    have aux : ∀ m : Nat, RpL X.K B (List.replicate m xs).flatten (List.replicate m vs).flatten := by
      intro m
      induction m with
      | zero => exact RpL.nil
      | succ m ih =>
        rw [List.replicate_succ, List.replicate_succ, List.flatten_cons, List.flatten_cons]
        exact RpL.append g2 ih
    exact aux _⟩
end
end Fx
set_option Elab.async false
set_option linter.all false
set_option maxRecDepth 100000
set_option maxHeartbeats 2000000
/-! Fx, part 4: tests, subscripts, slices, built-ins by data. -/
namespace Fx
open PySem L2

section
variable {X : Cx} {e a b c : Expr} {es : List Expr} {σ : L2.St} {B B' : Hp} {P P' Pa Pb : D → Prop} {PL : List D → Prop} {p pos apos : Pos} {rest : List Expr} {x : Str} {id : String}

/-! ### tests -/
theorem et_val {Pt : Bool → Prop} (h : EN X e σ B (fun d => ∃ k, d = .bl k ∧ Pt k)) (he : ∀ whole, isTrue e X.env whole = (do let v ← whole; standAt e.pos; holding [v] (truthy v)) := by intro _; rfl) : ET X e σ B Pt := fun B1 H e1 e2 Q k =>
  RT.of (pt_val cE he) (h B1 H e1 e2 _ fun v d B' H' s ⟨z, q, pz⟩ r => ⟨z, by subst q; exact Rp.bl.mp r, k z B' H' s pz⟩)
theorem et_valE {t : Bool} (h : EN X e σ B (Eq (.bl t))) (he : ∀ whole, isTrue e X.env whole = (do let v ← whole; standAt e.pos; holding [v] (truthy v)) := by intro _; rfl) : ET X e σ B (Eq t) :=
  et_val (h.imp fun _ q => ⟨t, q.symm, rfl⟩) he
/-- a comparison as a test -/
theorem et_cmp {op : CmpOp} {Pt : Bool → Prop} (ha : EN X a σ B Pa) (hb : EN X b σ B Pb) (o : ∀ x y, Pa x → Pb y → OD X (compareOp op) x y (fun d => ∃ k, d = .bl k ∧ Pt k)) (hm : behindInMarks op b = false := by first | exact nomark _ | rfl) : ET X (.Compare a [op] [b] pos) σ B Pt := fun B1 H e1 e2 Q k => by
  let R : R2 := fun v u H Q => ∃ x y B, Pa x ∧ Pb y ∧ Ex B H ∧ Rp X.K B x v ∧ Rp X.K B y u ∧ ∀ z d B' H', Step B H B' H' → (∃ k, d = D.bl k ∧ Pt k) → Rp X.K B' d z → Q z H'
  have hR : OpR X (compareOp op) R := fun pins s σ H v u vv uu Q I hx hy ⟨x, y, B, px, py, e, rx, ry, k⟩ => run_op (o x y px py) I e rx ry hx hy k
  exact RT.of (pt_cmpR hR cE cE hm) (ha B1 H e1 e2 _ fun v x B2 H2 s p r => hb B2 H2 (e1.trans s.b) s.bh _ fun u y B3 H3 s' p' r' =>
    ⟨x, y, B3, p, p', s'.bh, r.mono s'.b, r', fun z d B' H' s'' ⟨t, q, pt⟩ rd => ⟨t, by subst q; exact Rp.bl.mp rd, k t B' H' ((s.trans s').trans s'') pt⟩⟩)
theorem ed_tcmp {op : CmpOp} {x y : D} {t : Bool} (ha : EN X a σ B (Eq x)) (hb : EN X b σ B (Eq y)) (o : OD X (compareOp op) x y (Eq (.bl t))) (hm : behindInMarks op b = false := by first | exact nomark _ | rfl) : ET X (.Compare a [op] [b] pos) σ B (Eq t) :=
  et_cmp ha hb (fun _ _ q1 q2 => by
    subst q1; subst q2
    obtain ⟨r, h1, h2⟩ := o
    exact ⟨r, h1, fun v u B H Q e rx ry k => h2 v u B H Q e rx ry fun z d B' H' s q rz => k z d B' H' s ⟨t, q.symm, rfl⟩ rz⟩) hm
theorem et_not {Pt : Bool → Prop} (h : ET X a σ B (fun k => Pt (!k))) : ET X (.UnaryOp .Not a pos) σ B Pt := fun B1 H e1 e2 Q k => RT.of (pt_not cT) (h B1 H e1 e2 _ fun z B' H' s q => k (!z) B' H' s q)
theorem ed_not {t : Bool} (h : ET X a σ B (Eq t)) : ET X (.UnaryOp .Not a pos) σ B (Eq (!t)) := et_not (h.imp fun _ q => by rw [q])
/-- a test of and, or: the last one alone; one more ahead -/
structure EW (X : Cx) (e : Expr) (σ : L2.St) (B : Hp) (P : Bool → Prop) : Prop where
  run : ∀ B1 H, Ex B B1 → Ex B1 H → ∀ Q : Bool → Hp → Prop, (∀ b B' H', Step B1 H B' H' → P b → Q b H') → ∀ whole pins s, Inv X pins σ H s → wpAny (model X.prog X.w) X.A (isTrue e X.env whole) (TP X pins σ Q) X.xe s
theorem EW.et {Pt : Bool → Prop} (h : EW X e σ B Pt) : ET X e σ B Pt := fun B1 H e1 e2 Q k pins s I => h.run B1 H e1 e2 Q k _ pins s I
def RW (X : Cx) (e : Expr) (σ : L2.St) (H : Hp) (Q : Bool → Hp → Prop) : Prop := ∀ whole pins s, Inv X pins σ H s → wpAny (model X.prog X.w) X.A (isTrue e X.env whole) (TP X pins σ Q) X.xe s
theorem cW : PW X e (RW X e) := ⟨fun whole pins s _ _ _ I h => h whole pins s I⟩
theorem ew_and1 {Pt : Bool → Prop} (h : ET X a σ B Pt) : EW X (.BoolOp .And [a] pos) σ B Pt := ⟨fun B1 H e1 e2 Q k whole pins s I => (pw_and1 cT).run whole pins s σ H Q I (h B1 H e1 e2 Q k)⟩
theorem ew_or1 {Pt : Bool → Prop} (h : ET X a σ B Pt) : EW X (.BoolOp .Or [a] pos) σ B Pt := ⟨fun B1 H e1 e2 Q k whole pins s I => (pw_or1 cT).run whole pins s σ H Q I (h B1 H e1 e2 Q k)⟩
theorem ew_and {Pt : Bool → Prop} {t : Bool} (h : ET X a σ B (Eq t)) (h1 : t = true → EW X (.BoolOp .And (b :: rest) pos) σ B Pt) (h0 : t = false → Pt false) : EW X (.BoolOp .And (a :: b :: rest) pos) σ B Pt := ⟨fun B1 H e1 e2 Q k whole pins s I =>
  (pw_and cT cW).run whole pins s σ H Q I (h B1 H e1 e2 _ fun z B' H' st q => by
    subst q
    cases t with
    | true => exact iteT fun whole pins s I => (h1 rfl).run B' H' (e1.trans st.b) st.bh Q (fun b B'' H'' s'' pb => k b B'' H'' (st.trans s'') pb) whole pins s I
    | false => exact iteF (k false B' H' st (h0 rfl)))⟩
theorem ew_or {Pt : Bool → Prop} {t : Bool} (h : ET X a σ B (Eq t)) (h1 : t = false → EW X (.BoolOp .Or (b :: rest) pos) σ B Pt) (h0 : t = true → Pt true) : EW X (.BoolOp .Or (a :: b :: rest) pos) σ B Pt := ⟨fun B1 H e1 e2 Q k whole pins s I =>
  (pw_or cT cW).run whole pins s σ H Q I (h B1 H e1 e2 _ fun z B' H' st q => by
    subst q
    cases t with
    | false => exact iteF fun whole pins s I => (h1 rfl).run B' H' (e1.trans st.b) st.bh Q (fun b B'' H'' s'' pb => k b B'' H'' (st.trans s'') pb) whole pins s I
    | true => exact iteT (k true B' H' st (h0 rfl)))⟩
theorem ed_and2 {t u : Bool} (h : ET X a σ B (Eq t)) (h1 : t = true → ET X b σ B (Eq u)) : ET X (.BoolOp .And [a, b] pos) σ B (Eq (t && u)) :=
  (ew_and h (fun q => ew_and1 ((h1 q).imp fun _ z => by rw [q, ← z]; rfl)) fun q => by rw [q]; rfl).et
theorem ed_or2 {t u : Bool} (h : ET X a σ B (Eq t)) (h1 : t = false → ET X b σ B (Eq u)) : ET X (.BoolOp .Or [a, b] pos) σ B (Eq (t || u)) :=
  (ew_or h (fun q => ew_or1 ((h1 q).imp fun _ z => by rw [q, ← z]; rfl)) fun q => by rw [q]; rfl).et
theorem ed_or3 {t u w : Bool} (h : ET X a σ B (Eq t)) (h1 : t = false → ET X b σ B (Eq u)) (h2 : t = false → u = false → ET X c σ B (Eq w)) : ET X (.BoolOp .Or [a, b, c] pos) σ B (Eq (t || (u || w))) :=
  (ew_or h (fun q => ew_or (h1 q) (fun q2 => ew_or1 ((h2 q q2).imp fun _ z => by rw [q, q2, ← z]; rfl)) (fun q2 => by rw [q, q2]; rfl)) fun q => by rw [q]; rfl).et
/-- and, or as values (bools) -/
theorem en_andV {t u : Bool} (ha : EN X a σ B (Eq (.bl t))) (hb : t = true → EN X b σ B (Eq (.bl u))) : EN X (.BoolOp .And [a, b] pos) σ B (Eq (.bl (t && u))) := fun B1 H e1 e2 Q k =>
  RE.of (pe_and cE (pe_one cE)) (ha B1 H e1 e2 _ fun v d B' H' s q r => ⟨t, by subst q; exact Rp.bl.mp r, by
    cases t with
    | true => exact iteT (hb rfl B' H' (e1.trans s.b) s.bh _ fun v d B'' H'' s'' q r => k v d B'' H'' (s.trans s'') q r)
    | false => exact iteF (k _ _ B' H' s rfl (Rp.bl.mpr rfl))⟩)
theorem en_orV {t u : Bool} (ha : EN X a σ B (Eq (.bl t))) (hb : t = false → EN X b σ B (Eq (.bl u))) : EN X (.BoolOp .Or [a, b] pos) σ B (Eq (.bl (t || u))) := fun B1 H e1 e2 Q k =>
  RE.of (pe_or cE (pe_one cE)) (ha B1 H e1 e2 _ fun v d B' H' s q r => ⟨t, by subst q; exact Rp.bl.mp r, by
    cases t with
    | false => exact iteF (hb rfl B' H' (e1.trans s.b) s.bh _ fun v d B'' H'' s'' q r => k v d B'' H'' (s.trans s'') q r)
    | true => exact iteT (k _ _ B' H' s rfl (Rp.bl.mpr rfl))⟩)
theorem en_notV {t : Bool} (ha : EN X a σ B (Eq (.bl t))) : EN X (.UnaryOp .Not a pos) σ B (Eq (.bl (!t))) := fun B1 H e1 e2 Q k =>
  RE.of (pe_not cE) (ha B1 H e1 e2 _ fun v d B' H' s q r => ⟨t, by subst q; exact Rp.bl.mp r, k _ _ B' H' s rfl (Rp.bl.mpr rfl)⟩)
theorem en_if {t : Bool} (h : ET X c σ B (Eq t)) (ha : t = true → EN X a σ B P) (hb : t = false → EN X b σ B P) : EN X (.IfExp c a b pos) σ B P := fun B1 H e1 e2 Q k =>
  RE.of (pe_ifExp cT cE cE) (h B1 H e1 e2 _ fun z B' H' s q => by
    subst q
    cases t with
    | true => exact iteT (ha rfl B' H' (e1.trans s.b) s.bh _ fun v d B'' H'' s'' q r => k v d B'' H'' (s.trans s'') q r)
    | false => exact iteF (hb rfl B' H' (e1.trans s.b) s.bh _ fun v d B'' H'' s'' q r => k v d B'' H'' (s.trans s'') q r))
/-- a < b <= c and its like, on ints -/
theorem et_chainI {op op' : CmpOp} {f g : Int → Int → Bool} {i j k : Int} (ho : OpR X (compareOp op) (rI0 fun i j => .bl (f i j))) (ho' : OpR X (compareOp op') (rI0 fun i j => .bl (g i j)))
    (ha : EN X a σ B (Eq (.int i))) (hb : EN X b σ B (Eq (.int j))) (hc : EN X c σ B (Eq (.int k))) (hm : lastMarks [op, op'] [b, c] = false := by with_unfolding_all rfl) : ET X (.Compare a [op, op'] [b, c] pos) σ B (Eq (f i j && g j k)) := fun B1 H e1 e2 Q kk =>
  RT.of (pt_chain ho ho' cE cE cE hm) (ha B1 H e1 e2 _ fun v x B2 H2 s p r => hb B2 H2 (e1.trans s.b) s.bh _ fun u y B3 H3 s' p' r' => by
    subst p; subst p'
    refine ⟨i, j, Rp.int.mp r, Rp.int.mp r', f i j, rfl, ?_⟩
    cases hf : f i j with
    | true =>
      refine iteT (hc B3 H3 ((e1.trans s.b).trans s'.b) s'.bh _ fun w z B4 H4 s'' p'' r'' => ?_)
      subst p''
      exact ⟨j, k, Rp.int.mp r', Rp.int.mp r'', g j k, rfl, kk _ B4 H4 ((s.trans s').trans s'') (by rw [hf]; rfl)⟩
    | false => exact iteF ⟨false, rfl, kk _ B3 H3 (s.trans s') (by rw [hf]; rfl)⟩)

/-! ### subscripts -/
/-- an item by data -/
def IxD (X : Cx) (x y : D) (P : D → Prop) : Prop :=
  ∃ r, IxR X r ∧ ∀ v u B H (Q : VK), Ex B H → Rp X.K B x v → Rp X.K B y u → (∀ z d, P d → Rp X.K B d z → Q z H) → r v u H Q
theorem en_ix (ha : EN X a σ B Pa) (hb : EN X b σ B Pb) (o : ∀ x y, Pa x → Pb y → IxD X x y P) (hs : PlainIx b := by exact fun _ _ => rfl) : EN X (.Subscript a b pos) σ B P := fun B1 H e1 e2 Q k => by
  let R : R2 := fun v u H Q => ∃ x y B, Pa x ∧ Pb y ∧ Ex B H ∧ Rp X.K B x v ∧ Rp X.K B y u ∧ ∀ z d, P d → Rp X.K B d z → Q z H
  have hR : IxR X R := fun va sl pins s σ H v u vv uu Q I hx hy ⟨x, y, B, px, py, e, rx, ry, k⟩ hs => by
    obtain ⟨r, hr, q⟩ := o x y px py
    exact hr va sl pins s σ H v u vv uu Q I hx hy (q v u B H Q e rx ry k) hs
  exact RE.of (pe_ix hR cE cE hs) (ha B1 H e1 e2 _ fun v x B2 H2 s p r => hb B2 H2 (e1.trans s.b) s.bh _ fun u y B3 H3 s' p' r' =>
    ⟨x, y, B3, p, p', s'.bh, r.mono s'.b, r', fun z d pd rd => k z d B3 H3 (s.trans s') pd rd⟩)
theorem ed_ix {x y : D} (ha : EN X a σ B (Eq x)) (hb : EN X b σ B (Eq y)) (o : IxD X x y P) (hs : PlainIx b := by exact fun _ _ => rfl) : EN X (.Subscript a b pos) σ B P := en_ix ha hb (fun _ _ p q => p ▸ q ▸ o) hs
theorem RpL.atI {K : PySem.W.Frag} {H : Hp} {ds : List D} {vs : List V} {i : Int} {d : D} (r : RpL K H ds vs) (h : L2.atI ds i = some d) : ∃ v, L2.atI vs i = some v ∧ Rp K H d v := by
  unfold L2.atI at h ⊢
  rw [← r.length]
  cases q : ixN ds.length i with
  | none => rw [q] at h; cases h
  | some j =>
    rw [q] at h
    exact r.at h
theorem ix_lst {ds : List D} {i : Int} {d : D} (h : L2.atI ds i = some d) : IxD X (.lst ds) (.int i) (Eq d) :=
  ⟨_, ix_list, fun v u B H Q e rx ry k => by
    obtain ⟨a, vs, rfl, h1, h2⟩ := Rp.lst.mp rx
    cases Rp.int.mp ry
    obtain ⟨z, hz, rz⟩ := h2.atI h
    exact ⟨a, vs, i, z, rfl, rfl, SqL.of (e _ _ h1), hz, k z d rfl rz⟩⟩
theorem ix_tup {ds : List D} {i : Int} {d : D} (h : L2.atI ds i = some d) : IxD X (.tup ds) (.int i) (Eq d) :=
  ⟨_, L2.ix_tup, fun v u B H Q e rx ry k => by
    obtain ⟨a, vs, rfl, h1, h2⟩ := Rp.tup.mp rx
    cases Rp.int.mp ry
    obtain ⟨z, hz, rz⟩ := h2.atI h
    exact ⟨a, vs, i, z, rfl, rfl, e.t h1, hz, k z d rfl rz⟩⟩
theorem ix_text {z : Str} {i : Int} {c : Nat} (hz : z.length ≤ sizeLine) (h : L2.atI z.cps.toList i = some c) : IxD X (.str z) (.int i) (Eq (.str ⟨#[c]⟩)) :=
  ⟨_, ix_str, fun v u B H Q e rx ry k => ⟨z, i, c, Rp.str.mp rx, Rp.int.mp ry, hz, h, k _ _ rfl (Rp.str.mpr rfl)⟩⟩
theorem ix_scr {ns : List Int} {i n : Int} (h : L2.atI ns i = some n) : IxD X (.scr ns) (.int i) (Eq (.int n)) :=
  ⟨_, ix_list, fun v u B H Q e rx ry k => by
    simp only [Rp] at rx
    obtain ⟨a, rfl, h1⟩ := rx
    cases Rp.int.mp ry
    refine ⟨a, _, i, .int n, rfl, rfl, e.l h1, ?_, k _ _ rfl (Rp.int.mpr rfl)⟩
    unfold L2.atI at h ⊢
    rw [List.length_map]
    cases q : ixN ns.length i with
    | none => rw [q] at h; cases h
    | some j =>
      rw [q] at h
      have h' : ns[j]? = some n := h
      show (ns.map V.int)[j]? = some (V.int n)
      rw [List.getElem?_map, h']; rfl⟩

/-! ### slices -/
def EO (X : Cx) (e : Option Expr) (σ : L2.St) (B : Hp) (o : Option Int) : Prop :=
  ∀ B1 H, Ex B B1 → Ex B1 H → ∀ Q : Option Int → Hp → Prop, (∀ B' H', Step B1 H B' H' → Q o H') → ∃ t, PO X e t ∧ t σ H Q
theorem eo_none : EO X none σ B none := fun B1 H e1 e2 Q k => ⟨_, po_none, k B1 H (Step.refl e2)⟩
theorem eo_some {i : Int} (h : EN X e σ B (Eq (.int i))) : EO X (some e) σ B (some i) := fun B1 H e1 e2 Q k => ⟨_, po_some cE, h B1 H e1 e2 _ fun v d B' H' s q r => ⟨i, by subst q; exact Rp.int.mp r, k B' H' s⟩⟩
/-- a part's runs -/
def RO (X : Cx) (e : Option Expr) (σ : L2.St) (H : Hp) (Q : Option Int → Hp → Prop) : Prop := ∃ t, PO X e t ∧ t σ H Q
theorem cO {e : Option Expr} : PO X e (RO X e) := ⟨fun pins s σ H Q I ⟨t, h, q⟩ => h.run pins s σ H Q I q⟩
/-- the items of ds[lo:hi] -/
def cutD {α : Type} (ds : List α) (lo hi : Option Int) : List α := (ds.drop (HT.sIx ds.length 0 lo)).take (HT.sIx ds.length ds.length hi - HT.sIx ds.length 0 lo)
theorem RpL.cut {K : PySem.W.Frag} {H : Hp} {ds : List D} {vs : List V} {lo hi : Option Int} (r : RpL K H ds vs) : RpL K H (cutD ds lo hi) (cutV vs lo hi) := by
  unfold cutD cutV
  rw [r.length]
  exact RpL.take _ (RpL.drop _ r)
theorem cutD_map {α β : Type} (f : α → β) (ds : List α) (lo hi : Option Int) : cutD (ds.map f) lo hi = (cutD ds lo hi).map f := by
  unfold cutD
  rw [List.length_map, List.map_take, List.map_drop]
theorem cutD_to {α : Type} (ds : List α) (n : Nat) : cutD ds none (some (n : Int)) = ds.take n := by
  unfold cutD
  rw [HT.sIx_none, HT.sIx_nat, List.drop_zero, Nat.sub_zero]
  by_cases h : n ≤ ds.length
  · rw [Nat.min_eq_left h]
  · rw [Nat.min_eq_right (by omega), List.take_of_length_le (Nat.le_refl _), List.take_of_length_le (by omega)]
theorem cutD_from {α : Type} (ds : List α) (n : Nat) : cutD ds (some (n : Int)) none = ds.drop n := by
  unfold cutD
  rw [HT.sIx_none, HT.sIx_nat]
  by_cases h : n ≤ ds.length
  · rw [Nat.min_eq_left h, List.take_of_length_le (by rw [List.length_drop]; exact Nat.le_refl _)]
  · rw [Nat.min_eq_right (by omega), List.drop_of_length_le (Nat.le_refl _), List.drop_of_length_le (by omega), List.take_nil]
variable {lo hi : Option Expr} {l u : Option Int} {p2 : Pos}
theorem ef_slL {ds : List D} (h : EN X e σ B (Eq (.lst ds))) (hl : EO X lo σ B l) (hu : EO X hi σ B u) : EF X (.Subscript e (.Slice lo hi none p2) pos) σ B (Eq (cutD ds l u)) := fun B1 H e1 e2 Q k =>
  RE.of (pe_slice sl_list cE cO cO) (h B1 H e1 e2 _ fun v d B2 H2 s q r => hl B2 H2 (e1.trans s.b) s.bh _ fun B3 H3 s' => hu B3 H3 ((e1.trans s.b).trans s'.b) s'.bh _ fun B4 H4 s'' => by
    subst q
    obtain ⟨a, vs, rfl, h1, h2⟩ := Rp.lst.mp r
    have st := (s.trans s').trans s''
    exact ⟨a, vs, rfl, SqL.of (s''.h _ _ (s'.h _ _ (s.bh _ _ h1))), fun p hp => k p _ _ B4 _ (st.trans (Step.own s''.bh hp)) (st.h.back hp) (s''.bh.back hp) upd_same rfl ((h2.mono (s'.b.trans s''.b)).cut)⟩)
theorem en_slT {ds : List D} (h : EN X e σ B (Eq (.tup ds))) (hl : EO X lo σ B l) (hu : EO X hi σ B u) : EN X (.Subscript e (.Slice lo hi none p2) pos) σ B (Eq (.tup (cutD ds l u))) := fun B1 H e1 e2 Q k =>
  RE.of (pe_slice sl_tupA cE cO cO) (h B1 H e1 e2 _ fun v d B2 H2 s q r => hl B2 H2 (e1.trans s.b) s.bh _ fun B3 H3 s' => hu B3 H3 ((e1.trans s.b).trans s'.b) s'.bh _ fun B4 H4 s'' => by
    subst q
    obtain ⟨a, vs, rfl, h1, h2⟩ := Rp.tup.mp r
    have st := (s.trans s').trans s''
    have ht : SqT X.K H4 a vs := s''.h.t (s'.h.t (s.bh.t h1))
    refine ⟨a, vs, rfl, ht, fun w => k _ _ B4 H4 st rfl (Rp.tup.mpr ⟨a, vs, rfl, (s'.b.trans s''.b).t h1, ?_⟩), fun w p hp => k _ _ _ _ (st.trans (Step.alloc s''.bh hp)) rfl (Rp.tup.mpr ⟨p, _, rfl, SqT.of upd_same, ?_⟩)⟩
    · have e0 : cutD ds l u = ds := by
        unfold cutD
        rw [h2.length, w.1, w.2, List.drop_zero, Nat.sub_zero, ← h2.length, List.take_of_length_le (Nat.le_refl _)]
      rw [e0]; exact h2.mono (s'.b.trans s''.b)
    · exact ((h2.mono (s'.b.trans s''.b)).cut).mono (Ex.new (s''.bh.back hp)))
theorem en_slS {z : Str} (h : EN X e σ B (Eq (.str z))) (hl : EO X lo σ B l) (hu : EO X hi σ B u) (hz : z.length ≤ sizeLine) : EN X (.Subscript e (.Slice lo hi none p2) pos) σ B (Eq (.str (cutS z l u))) := fun B1 H e1 e2 Q k =>
  RE.of (pe_slice sl_str cE cO cO) (h B1 H e1 e2 _ fun v d B2 H2 s q r => hl B2 H2 (e1.trans s.b) s.bh _ fun B3 H3 s' => hu B3 H3 ((e1.trans s.b).trans s'.b) s'.bh _ fun B4 H4 s'' => by
    subst q
    exact ⟨z, Rp.str.mp r, hz, k _ _ B4 H4 ((s.trans s').trans s'') rfl (Rp.str.mpr rfl)⟩)
theorem ef_rev {ds : List D} {k0 : Nat} {p1 p3 p4 : Pos} (h : EN X e σ B (Eq (.lst ds))) : EF X (.Subscript e (.Slice none none (some (.UnaryOp .USub (.Constant (.int 1) k0 p1) p3)) p4) pos) σ B (Eq ds.reverse) := fun B1 H e1 e2 Q k =>
  RE.of (pe_revL cE) (h B1 H e1 e2 _ fun v d B2 H2 s q r => by
    subst q
    obtain ⟨a, vs, rfl, h1, h2⟩ := Rp.lst.mp r
    exact ⟨a, vs, rfl, SqL.of (s.bh _ _ h1), fun p hp => k p _ _ B2 _ (s.trans (Step.own s.bh hp)) (s.h.back hp) (s.bh.back hp) upd_same rfl h2.reverse⟩)
end
end Fx
set_option Elab.async false
set_option linter.all false
set_option maxRecDepth 100000
set_option maxHeartbeats 2000000
/-! Fx, part 5: walks, comprehensions, blocks, loops. -/
namespace Fx
open PySem L2

section
variable {X : Cx} {e elt iter tg : Expr} {es ifs : List Expr} {σ : L2.St} {B B' : Hp} {P P' Pa Pb : D → Prop} {PL : List D → Prop} {p pos apos px : Pos} {rest : List Stmt} {x y : Str} {id : String}

/-! ### what is walked -/
/-- the iterator J gives the data ds, one after another, over any heap that has B -/
def Wk (K : PySem.W.Frag) (J : It) (B : Hp) (ds : List D) : Prop :=
  ∃ G Y, Walk J ds.length G Y ∧ (∀ H, Ex B H → G H) ∧ ∀ i H v H' B1, i < ds.length → Ex B B1 → Ex B1 H → Y i H v H' → ∃ B2 d, Step B1 H B2 H' ∧ ds[i]? = some d ∧ Rp K B2 d v
def RI (X : Cx) (tg iter : Expr) (σ : L2.St) (H : Hp) (R : It → Hp → Prop) : Prop := ∀ pins s, Inv X pins σ H s →
  wpAny (model X.prog X.w) X.A (eval iter X.env) (fun v s1 => wpAny (model X.prog X.w) X.A (pyIter v) (PIE X pins σ tg R) X.xe s1) X.xe s
theorem cI : PI X tg iter (RI X tg iter) := ⟨fun pins s _ _ _ I h => h pins s I⟩
theorem RI.of {w : TI} (h : PI X tg iter w) {H : Hp} {R : It → Hp → Prop} (q : w σ H R) : RI X tg iter σ H R := fun pins s I => h.run pins s σ H R I q
def WI (X : Cx) (tg iter : Expr) (σ : L2.St) (B : Hp) (P : List D → Prop) : Prop :=
  ∀ B1 H, Ex B B1 → Ex B1 H → ∀ R : It → Hp → Prop, (∀ J ds B' H', Step B1 H B' H' → P ds → Wk X.K J B' ds → R J H') → RI X tg iter σ H R
theorem WI.mono (h : WI X tg iter σ B PL) (q : Ex B B') : WI X tg iter σ B' PL := fun B1 H e1 e2 => h B1 H (q.trans e1) e2
theorem wk_list {K : PySem.W.Frag} {a : Addr} {ds : List D} {vs : List V} (h : B a = some (.lst vs)) (r : RpL K B ds vs) : Wk K (Itl K a) B ds :=
  ⟨_, _, by rw [r.length]; exact walk_list (xs := vs), fun H q => SqL.of (q _ _ h), fun i H v H' B1 hi e1 e2 q => by
    obtain ⟨rfl, hv⟩ := q
    obtain ⟨d, hd, rd⟩ := r.get hv
    exact ⟨B1, d, Step.refl e2, hd, rd.mono e1⟩⟩
theorem wk_tup {K : PySem.W.Frag} {a : Addr} {ds : List D} {vs : List V} (h : SqT K B a vs) (r : RpL K B ds vs) : Wk K (Itt K a) B ds :=
  ⟨_, _, by rw [r.length]; exact walk_tup (xs := vs), fun H q => q.t h, fun i H v H' B1 hi e1 e2 q => by
    obtain ⟨rfl, hv⟩ := q
    obtain ⟨d, hd, rd⟩ := r.get hv
    exact ⟨B1, d, Step.refl e2, hd, rd.mono e1⟩⟩
theorem wi_lst {Pl : List D → Prop} (h : EN X iter σ B (fun d => ∃ ds, d = .lst ds ∧ Pl ds)) : WI X tg iter σ B Pl := fun B1 H e1 e2 R k =>
  RI.of (pi_list cE) (h B1 H e1 e2 _ fun v d B' H' s ⟨ds, q, pl⟩ r => by
    subst q
    obtain ⟨a, vs, rfl, h1, h2⟩ := Rp.lst.mp r
    exact ⟨a, rfl, ⟨vs, SqL.of (s.bh _ _ h1)⟩, k _ ds B' H' s pl (wk_list h1 h2)⟩)
theorem wi_lstE {ds : List D} (h : EN X iter σ B (Eq (.lst ds))) : WI X tg iter σ B (Eq ds) := wi_lst (h.imp fun _ q => ⟨ds, q.symm, rfl⟩)
theorem wi_tupE {ds : List D} (h : EN X iter σ B (Eq (.tup ds))) : WI X tg iter σ B (Eq ds) := fun B1 H e1 e2 R k =>
  RI.of (pi_tup cE) (h B1 H e1 e2 _ fun v d B' H' s q r => by
    subst q
    obtain ⟨a, vs, rfl, h1, h2⟩ := Rp.tup.mp r
    exact ⟨a, rfl, ⟨vs, s.bh.t h1⟩, k _ ds B' H' s rfl (wk_tup h1 h2)⟩)
/-- 0, 1, .. below n -/
def upTo (n : Nat) : List D := (List.range n).map fun (i : Nat) => D.int (i : Int)
theorem upTo_length (n : Nat) : (upTo n).length = n := by unfold upTo; rw [List.length_map, List.length_range]
theorem upTo_at {n i : Nat} (h : i < n) : (upTo n)[i]? = some (.int (i : Int)) := by
  unfold upTo
  rw [List.getElem?_map, List.getElem?_range h]; rfl
theorem wi_range {a : Expr} {Pn : Int → Prop} (h : EN X a σ B (fun d => ∃ n, d = .int n ∧ Pn n)) (hb : ∀ n, Pn n → -(2 ^ 62) ≤ n ∧ n < 2 ^ 62) (hm : X.mg "range" = none) (hg : Gl X "range" := by rfl)
    (hs : starEach [a] X.env = [(false, eval a X.env)] := by rfl) : WI X tg (.Call (.Name "range" px) [a] [] pos) σ B (fun ds => ∃ n, Pn n ∧ ds = upTo n.toNat) := fun B1 H e1 e2 R k =>
  RI.of (pi_range1 hg hm (pa_cons cE pa_nil hs) hs) (h B1 H e1 e2 _ fun v d B' H' s ⟨n, q, pn⟩ r => by
    subst q
    have hb' := hb n pn
    refine ⟨n, by rw [Rp.int.mp r], hb'.1, hb'.2, k _ (upTo n.toNat) B' H' s ⟨n, pn, rfl⟩ ⟨_, _, by rw [upTo_length]; exact walk_range, fun _ _ => trivial, fun i H v H' B1 hi e1 e2 q => ?_⟩⟩
    obtain ⟨rfl, rfl⟩ := q
    rw [upTo_length] at hi
    exact ⟨B1, _, Step.refl e2, upTo_at hi, by rw [Rp.int]; simp⟩)
theorem wi_rangeE {a : Expr} {n : Int} (h : EN X a σ B (Eq (.int n))) (hb : -(2 ^ 62) ≤ n ∧ n < 2 ^ 62) (hm : X.mg "range" = none) (hg : Gl X "range" := by rfl)
    (hs : starEach [a] X.env = [(false, eval a X.env)] := by rfl) : WI X tg (.Call (.Name "range" px) [a] [] pos) σ B (Eq (upTo n.toNat)) := fun B1 H e1 e2 R k =>
  wi_range (Pn := Eq n) (h.imp fun _ q => ⟨n, q.symm, rfl⟩) (fun _ q => q ▸ hb) hm hg hs B1 H e1 e2 R fun J ds B' H' s ⟨m, q, z⟩ w => k J ds B' H' s (by rw [z, q]) w
/-- a text, sign by sign -/
def signs (z : Str) : List D := z.cps.toList.map fun c => D.str ⟨#[c]⟩
theorem wi_text {z : Str} (h : EN X iter σ B (Eq (.str z))) : WI X tg iter σ B (Eq (signs z)) := fun B1 H e1 e2 R k =>
  RI.of (pi_str cE) (h B1 H e1 e2 _ fun v d B' H' s q r => by
    subst q
    have hl : (signs z).length = z.cps.size := by unfold signs; rw [List.length_map, Array.length_toList]
    refine ⟨z, Rp.str.mp r, k _ (signs z) B' H' s rfl ⟨_, _, by rw [hl]; exact walk_str, fun _ _ => trivial, fun i H v H' B1 hi e1 e2 q => ?_⟩⟩
    obtain ⟨rfl, c, hc, rfl⟩ := q
    refine ⟨B1, _, Step.refl e2, ?_, Rp.str.mpr rfl⟩
    unfold signs
    rw [List.getElem?_map, Array.getElem?_toList, hc]; rfl)
/-- pairs of a list's places and items -/
def enumD (ds : List D) : List D := ds.zipIdx.map fun q => D.tup [.int (q.2 : Nat), q.1]
theorem enumD_length (ds : List D) : (enumD ds).length = ds.length := by unfold enumD; rw [List.length_map, List.length_zipIdx]
theorem enumD_at {ds : List D} {i : Nat} {d : D} (h : ds[i]? = some d) : (enumD ds)[i]? = some (.tup [.int (i : Nat), d]) := by
  unfold enumD
  rw [List.getElem?_map, List.getElem?_zipIdx, h]
  simp
theorem wi_enum {ds : List D} {elts : List Expr} {kk : Nat} {tpos : Pos} (h : EN X e σ B (Eq (.lst ds))) (hm : X.mg "enumerate" = none) (hg : Gl X "enumerate" := by rfl) (hs : starEach [e] X.env = [(false, eval e X.env)] := by rfl) :
    WI X (.Tuple elts kk tpos) (.Call (.Name "enumerate" px) [e] [] pos) σ B (Eq (enumD ds)) := fun B1 H e1 e2 R k =>
  RI.of (pi_enum hg hm (pa_cons cE pa_nil hs) hs) (h B1 H e1 e2 _ fun v d B' H' s q r => by
    subst q
    obtain ⟨a, vs, rfl, h1, h2⟩ := Rp.lst.mp r
    refine ⟨a, vs, rfl, SqL.of (s.bh _ _ h1), k _ (enumD ds) B' H' s rfl ⟨_, _, by rw [enumD_length, h2.length]; exact walk_enum (xs := vs), fun H q => SqL.of (q _ _ h1), fun i H v H' B1 hi e1 e2 q => ?_⟩⟩
    obtain ⟨T, x, y, rfl, hT, rfl, hx, hy⟩ := q
    obtain ⟨d, hd, rd⟩ := h2.get hy
    cases hx
    exact ⟨_, _, Step.alloc e2 hT, enumD_at hd, Rp.tup.mpr ⟨T, _, rfl, SqT.of upd_same, RpL.cons (Rp.int.mpr rfl) (RpL.cons (rd.mono (e1.trans (Ex.new (e2.back hT)))) RpL.nil)⟩⟩)
def zipD (ds fs : List D) : List D := (ds.zip fs).map fun q => D.tup [q.1, q.2]
theorem zipD_length (ds fs : List D) : (zipD ds fs).length = min ds.length fs.length := by unfold zipD; rw [List.length_map, List.length_zip]
theorem wi_zip {f : Expr} {ds fs : List D} {elts : List Expr} {kk : Nat} {tpos : Pos} (h : EA X [e, f] σ B (Eq [.lst ds, .lst fs])) (hm : X.mg "zip" = none) (hg : Gl X "zip" := by rfl)
    (hs : starEach [e, f] X.env = (false, eval e X.env) :: starEach [f] X.env := by rfl) (hpl : (backTo pos (starEach [f] X.env)).any (·.1) = false := by rfl) :
    WI X (.Tuple elts kk tpos) (.Call (.Name "zip" px) [e, f] [] pos) σ B (Eq (zipD ds fs)) := fun B1 H e1 e2 R k =>
  RI.of (pi_zip hg hm cA hs hpl) (h B1 H e1 e2 _ fun vs l B' H' s q r => by
    subst q
    simp only [RpL] at r
    obtain ⟨v, r1, rfl, ra, w, r2, rfl, rb, rfl⟩ := r
    obtain ⟨a, us, rfl, h1, h2⟩ := Rp.lst.mp ra
    obtain ⟨b, ws, rfl, h3, h4⟩ := Rp.lst.mp rb
    refine ⟨a, b, us, ws, rfl, SqL.of (s.bh _ _ h1), SqL.of (s.bh _ _ h3), k _ (zipD ds fs) B' H' s rfl ⟨_, _, walk_zip (xs := us) (ys := ws) (by rw [zipD_length, h2.length, h4.length]), fun H q => ⟨SqL.of (q _ _ h1), SqL.of (q _ _ h3)⟩, fun i H v H' B1 hi e1 e2 q => ?_⟩⟩
    obtain ⟨T, x, y, rfl, hT, rfl, hx, hy⟩ := q
    obtain ⟨d, hd, rd⟩ := h2.get hx
    obtain ⟨d', hd', rd'⟩ := h4.get hy
    have e3 := e1.trans (Ex.new (o := .tup [x, y]) (e2.back hT))
    refine ⟨_, .tup [d, d'], Step.alloc e2 hT, ?_, Rp.tup.mpr ⟨T, _, rfl, SqT.of upd_same, RpL.cons (rd.mono e3) (RpL.cons (rd'.mono e3) RpL.nil)⟩⟩
    unfold zipD
    rw [List.getElem?_map, (List.getElem?_zip_eq_some (z := (d, d'))).mpr ⟨hd, hd'⟩]; rfl)

/-! ### comprehensions -/
/-- the block's runs, for any entry -/
def BE (X : Cx) (scope : Scope) (e : Expr) : TE := fun σ H Q => ∀ s H0 C cl fp, RE (X.blk s H0 scope (compEnvC scope cl C X.env) fp) e σ H Q
theorem cBE {scope : Scope} {e : Expr} (s : Shared) (H : Hp) (C : Addr) (cl : List (Str × Addr)) (fp : List Addr) : PE (X.blk s H scope (compEnvC scope cl C X.env) fp) e (BE X scope e) :=
  ⟨fun pins s' _ _ _ I h => h s H C cl fp pins s' I⟩
def BT (X : Cx) (scope : Scope) (e : Expr) : TT := fun σ H Q => ∀ s H0 C cl fp, RT (X.blk s H0 scope (compEnvC scope cl C X.env) fp) e σ H Q
theorem cBT {scope : Scope} {e : Expr} (s : Shared) (H : Hp) (C : Addr) (cl : List (Str × Addr)) (fp : List Addr) : PT (X.blk s H scope (compEnvC scope cl C X.env) fp) e (BT X scope e) :=
  ⟨fun pins s' _ _ _ I h => h s H C cl fp pins s' I⟩
/-- what the element is worth in the block, whatever the block's entry -/
def BN (X : Cx) (scope : Scope) (e : Expr) (σ : L2.St) (B : Hp) (P : D → Prop) : Prop := ∀ s H0 C cl fp, EN (X.blk s H0 scope (compEnvC scope cl C X.env) fp) e σ B P
def BTst (X : Cx) (scope : Scope) (e : Expr) (σ : L2.St) (B : Hp) (P : Bool → Prop) : Prop := ∀ s H0 C cl fp, ET (X.blk s H0 scope (compEnvC scope cl C X.env) fp) e σ B P
theorem BN.be {scope : Scope} {B1 H : Hp} {Q : VK} (h : BN X scope e σ B P) (e1 : Ex B B1) (e2 : Ex B1 H) (k : ∀ v d B' H', Step B1 H B' H' → P d → Rp X.K B' d v → Q v H') : BE X scope e σ H Q :=
  fun s H0 C cl fp => h s H0 C cl fp B1 H e1 e2 Q k
theorem BTst.bt {scope : Scope} {B1 H : Hp} {Pt : Bool → Prop} {Q : Bool → Hp → Prop} (h : BTst X scope e σ B Pt) (e1 : Ex B B1) (e2 : Ex B1 H) (k : ∀ b B' H', Step B1 H B' H' → Pt b → Q b H') : BT X scope e σ H Q :=
  fun s H0 C cl fp => h s H0 C cl fp B1 H e1 e2 Q k
/-- how the target's stores change the slots -/
def GT (K : PySem.W.Frag) (g : TG) (set : L2.St → List V → L2.St) (parts : D → Option (List D)) : Prop :=
  ∀ v d B H σ (Q : L2.St → Hp → Prop) ds, Ex B H → Rp K B d v → parts d = some ds → (∀ vs, RpL K B ds vs → Q (set σ vs) H) → g v σ H Q
def set1 (j : Nat) : L2.St → List V → L2.St := fun σ vs => σ.set j vs.head?
def set2 (i j : Nat) : L2.St → List V → L2.St := fun σ vs => (σ.set i vs.head?).set j (vs.drop 1).head?
theorem gt_name {K : PySem.W.Frag} (j : Nat) : GT K (gName j) (set1 j) (fun d => some [d]) := fun v d B H σ Q ds e r q k => by
  cases q
  exact k [v] (RpL.cons r RpL.nil)
/-- a pair's parts -/
def pair? : D → Option (List D)
  | .tup [a, b] => some [a, b]
  | _ => none
theorem gt_pair {K : PySem.W.Frag} (i j : Nat) : GT K (gTup K 2 (gCons (gName i) (gCons (gName j) gNil))) (set2 i j) pair? := fun v d B H σ Q ds e r q k => by
  unfold pair? at q
  split at q
  · cases q
    rename_i a b
    obtain ⟨t, vs, rfl, h1, h2⟩ := Rp.tup.mp r
    have hl := h2.length
    have k2 := k vs h2
    simp only [RpL] at h2
    obtain ⟨v1, r1, rfl, ra, v2, r2, rfl, rb, rfl⟩ := h2
    exact ⟨t, _, rfl, e.t h1, rfl, v1, [v2], rfl, v2, [], rfl, rfl, k2⟩
  · cases q
/-- the state of a comprehension: the list at L holds the data out of the first i -/
def Lw (K : PySem.W.Frag) (B H0 : Hp) (L : Addr) (out : Nat → List D → Prop) (i : Nat) (H : Hp) : Prop :=
  ∃ B' vs es, Ex B B' ∧ Ex B' H ∧ Ex H0 H ∧ (∀ a, B a = none → H0 a ≠ none → B' a = none) ∧ B' L = none ∧ H0 L = none ∧ H L = some (.lst vs) ∧ RpL K B' es vs ∧ out i es
/-- the core: any target, no test or one -/
theorem lc_run {wi : TI} {g : TG} {tt : TT} {te : TE} {vs : List Nat} {set : L2.St → List V → L2.St} {parts : D → Option (List D)} {H : Hp} {Q : VK} {Pds : List D → Prop} {t : Nat → D → Bool} {Pe : Nat → D → D → Prop}
    (hw : ∀ R : It → Hp → Prop, (∀ J ds B' H', Step B H B' H' → Pds ds → Wk X.K J B' ds → R J H') → wi σ H R)
    (hg : GT X.K g set parts) (hwipe : ∀ v, wipe (set (wipe σ vs) v) vs = wipe σ vs)
    (hsz : ∀ ds, Pds ds → ds.length ≤ sizeLine)
    (hp : ∀ ds, Pds ds → ∀ i d, ds[i]? = some d → ∃ ps, parts d = some ps ∧ ∀ B1 H1 us, Ex B B1 → Ex B1 H1 → RpL X.K B1 ps us →
      (∀ Q : Bool → Hp → Prop, (∀ B' H', Step B1 H1 B' H' → Q (t i d) H') → tt (set (wipe σ vs) us) H1 Q) ∧
      (t i d = true → ∀ B2 H2, Ex B1 B2 → Ex B2 H2 → ∀ Q : VK, (∀ v e B' H', Step B2 H2 B' H' → Pe i d e → Rp X.K B' e v → Q v H') → te (set (wipe σ vs) us) H2 Q))
    (he : Ex B H)
    (k : ∀ L es ws ds B' H', Step B H B' H' → H L = none → B' L = none → H' L = some (.lst ws) → RpL X.K B' es ws → Pds ds →
      (∃ l : List (Option D), l.length = ds.length ∧ es = l.filterMap _root_.id ∧ ∀ (i : Nat) (d : D), ds[i]? = some d → (t i d = false ∧ l[i]? = some none) ∨ (t i d = true ∧ ∃ e, l[i]? = some (some e) ∧ Pe i d e)) → Q (.ref L) H') :
    tLc wi g tt te vs σ H Q := by
  refine hw _ fun J ds B1 H1 s pds w => ?_
  obtain ⟨G, Y, wk, hG, hY⟩ := w
  intro L hL
  -- what the list holds behind i turns
  let out : Nat → List D → Prop := fun n es => ∃ l : List (Option D), l.length = n ∧ es = l.filterMap _root_.id ∧ ∀ (i : Nat) (d : D), i < n → ds[i]? = some d → (t i d = false ∧ l[i]? = some none) ∨ (t i d = true ∧ ∃ e, l[i]? = some (some e) ∧ Pe i d e)
  refine lc_it wk (Lw X.K B1 H1 L out) ⟨B1, [], [], Ex.refl _, s.bh.trans (Ex.new hL), Ex.new hL, fun _ h _ => h, s.bh.back hL, hL, upd_same, RpL.nil, [], rfl, rfl, fun i d hi => absurd hi (Nat.not_lt_zero _)⟩
    (fun i H' _ ⟨B', _, _, q1, q2, _⟩ => hG H' (q1.trans q2)) (fun i v H2 H3 hi ⟨B', ws, es, q1, q2, q3, q4, q5, q6, q7, q8, l, l1, l2, l3⟩ y => ?_) (fun H' ⟨B', ws, es, q1, q2, q3, q4, q5, q6, q7, q8, l, l1, l2, l3⟩ => ?_)
  · obtain ⟨B2, d, s2, hd, rd⟩ := hY i H2 v H3 B' hi q1 q2 y
    obtain ⟨ps, hps, run⟩ := hp ds pds i d hd
    refine hg v d B2 H3 _ _ ps s2.bh rd hps fun us rus => ?_
    refine ⟨hwipe us, ?_⟩
    obtain ⟨rt, re⟩ := run B2 H3 us (s.b.trans (q1.trans s2.b)) s2.bh rus
    have k2 := s2.keep q5 q7
    refine rt _ fun B3 H4 s3 => ?_
    have k3 := s3.keep k2.1 k2.2
    cases ht : t i d with
    | false =>
      refine iteF ⟨B3, ws, es, q1.trans (s2.b.trans s3.b), s3.bh, q3.trans (s2.h.trans s3.h), fun a h1 h2 => ?_, k3.1, q6, k3.2, q8.mono (s2.b.trans s3.b), l ++ [none], by simp [l1], by simp [l2], fun j d' hj hd' => ?_⟩
      · exact s3.nw a (s2.nw a (q4 a h1 h2) (fun z => h2 (q3.back z))) (fun z => h2 (q3.back (s2.h.back z)))
      · by_cases hji : j < i
        · rcases l3 j d' hji hd' with ⟨z1, z2⟩ | ⟨z1, e', z2, z3⟩
          · exact .inl ⟨z1, by rw [List.getElem?_append_left (by omega)]; exact z2⟩
          · exact .inr ⟨z1, e', by rw [List.getElem?_append_left (by omega)]; exact z2, z3⟩
        · have ej : j = i := by omega
          subst ej
          rw [hd] at hd'; cases hd'
          exact .inl ⟨ht, by rw [List.getElem?_append_right (by omega), l1]; simp⟩
    | true =>
      refine iteT (re ht B3 H4 s3.b s3.bh _ fun ev ed B4 H5 s4 pe4 r4 => ?_)
      have k4 := s4.keep k3.1 k3.2
      refine ⟨ws, k4.2, ?_, B4, ws ++ [ev], es ++ [ed], q1.trans (s2.b.trans (s3.b.trans s4.b)), s4.bh.put k4.1, (q3.trans (s2.h.trans (s3.h.trans s4.h))).put q6, fun a h1 h2 => ?_, k4.1, q6, upd_same, (q8.mono (s2.b.trans (s3.b.trans s4.b))).append (RpL.cons r4 RpL.nil), l ++ [some ed], by simp [l1], by simp [l2], fun j d' hj hd' => ?_⟩
      · have h1 := hsz ds pds
        have h2 : es.length ≤ l.length := by rw [l2]; exact List.length_filterMap_le _ _
        have h3 := q8.length
        omega
      · exact s4.nw a (s3.nw a (s2.nw a (q4 a h1 h2) (fun z => h2 (q3.back z))) (fun z => h2 (q3.back (s2.h.back z)))) (fun z => h2 (q3.back (s2.h.back (s3.h.back z))))
      · by_cases hji : j < i
        · rcases l3 j d' hji hd' with ⟨z1, z2⟩ | ⟨z1, e', z2, z3⟩
          · exact .inl ⟨z1, by rw [List.getElem?_append_left (by omega)]; exact z2⟩
          · exact .inr ⟨z1, e', by rw [List.getElem?_append_left (by omega)]; exact z2, z3⟩
        · have ej : j = i := by omega
          subst ej
          rw [hd] at hd'; cases hd'
          exact .inr ⟨ht, ed, by rw [List.getElem?_append_right (by omega), l1]; simp, pe4⟩
  · refine k L es ws ds B' H' ⟨s.b.trans q1, q2, s.h.trans q3, fun a h1 h2 => q4 a (s.nw a h1 h2) (fun z => h2 (s.h.back z))⟩ (s.h.back q6) q5 q7 q8 pds ⟨l, l1, l2, fun i d hd => ?_⟩
    exact l3 i d (List.getElem?_eq_some_iff.mp hd).1 hd
end
end Fx
set_option Elab.async false
set_option linter.all false
set_option maxRecDepth 100000
set_option maxHeartbeats 2000000
/-! Fx, part 6: comprehensions in use, blocks, loops, defs. -/
namespace Fx
open PySem L2

section
variable {X : Cx} {e elt iter tg c : Expr} {es ifs : List Expr} {σ : L2.St} {B B' H : Hp} {P P' Pa Pb : D → Prop} {PL Pds : List D → Prop} {p pos apos px py spos : Pos} {rest sts sts' : List Stmt} {x y z : Str} {id : String} {scope : Scope} {own : List (Str × Nat)}

theorem filterMap_some {α : Type} : ∀ {l : List (Option α)} {n : Nat}, l.length = n → (∀ (i : Nat), i < n → ∃ (e : α), l[i]? = some (some e)) → (l.filterMap _root_.id).length = n ∧ ∀ (i : Nat) (e : α), l[i]? = some (some e) → (l.filterMap _root_.id)[i]? = some e
  | [], n, h, _ => by subst h; exact ⟨rfl, fun i e z => by simp at z⟩
  | o :: l, n, h, k => by
    subst h
    obtain ⟨e, he⟩ := k 0 (by simp)
    simp at he
    subst he
    obtain ⟨a, b⟩ := filterMap_some (l := l) rfl (fun i hi => by simpa using k (i + 1) (by simpa using hi))
    refine ⟨by simp [a], fun i e z => ?_⟩
    cases i with
    | zero => simpa using z
    | succ i => simpa using b i e (by simpa using z)
/-- the items that pass, changed -/
theorem filterMap_of {α β : Type} {t : α → Bool} {f : α → β} : ∀ {ds : List α} {l : List (Option β)}, l.length = ds.length → (∀ (i : Nat) (d : α), ds[i]? = some d → (t d = false ∧ l[i]? = some none) ∨ (t d = true ∧ ∃ e, l[i]? = some (some e) ∧ f d = e)) → l.filterMap _root_.id = (ds.filter t).map f
  | [], l, h, _ => by
    have e : l = [] := List.length_eq_zero_iff.mp h
    subst e; rfl
  | d :: ds, [], h, _ => by simp at h
  | d :: ds, o :: l, h, k => by
    have ih := filterMap_of (ds := ds) (l := l) (by simpa using h) (fun i d' hd => by simpa using k (i + 1) d' (by simpa using hd))
    rcases k 0 d rfl with ⟨z1, z2⟩ | ⟨z1, e, z2, z3⟩
    · simp at z2
      subst z2
      rw [List.filter_cons, if_neg (by rw [z1]; exact Bool.false_ne_true), ← ih]; rfl
    · simp at z2
      subst z2
      subst z3
      rw [List.filter_cons, if_pos z1, List.map_cons, ← ih]; rfl

/-! ### comprehensions as expressions -/
/-- the target is a name: how a turn begins -/
abbrev Tn (X : Cx) (scope : Scope) (tg : Expr) (g : TG) : Prop := ∀ (s : Shared) (H : Hp) (C : Addr) (cl : List (Str × Addr)) (fp : List Addr), PG (X.blk s H scope (compEnvC scope cl C X.env) fp) tg g
/-- no test; the items may be drawn -/
theorem lc_all {j : Nat} {wi : TI} {te : TE} {vs : List Nat} {H : Hp} {Q : VK} {Pe : Nat → D → D → Prop}
    (hw : ∀ R : It → Hp → Prop, (∀ J ds B' H', Step B H B' H' → Pds ds → Wk X.K J B' ds → R J H') → wi σ H R) (hwipe : ∀ v, wipe (set1 j (wipe σ vs) v) vs = wipe σ vs) (hsz : ∀ ds, Pds ds → ds.length ≤ sizeLine)
    (hel : ∀ ds, Pds ds → ∀ i d, ds[i]? = some d → ∀ B1 v, Ex B B1 → Rp X.K B1 d v → ∀ B2 H2, Ex B1 B2 → Ex B2 H2 → ∀ Q : VK, (∀ v e B' H', Step B2 H2 B' H' → Pe i d e → Rp X.K B' e v → Q v H') → te ((wipe σ vs).set j (some v)) H2 Q)
    (he : Ex B H) (k : ∀ L es ws ds B' H', Step B H B' H' → H L = none → B' L = none → H' L = some (.lst ws) → RpL X.K B' es ws → Pds ds → es.length = ds.length → (∀ i d, ds[i]? = some d → ∃ e, es[i]? = some e ∧ Pe i d e) → Q (.ref L) H') :
    tLc wi (gName j) tYes te vs σ H Q :=
  lc_run (t := fun _ _ => true) (Pe := Pe) hw (gt_name j) hwipe hsz (fun ds pds i d hd => ⟨[d], rfl, fun B1 H1 us e1 e2 r => by
    simp only [RpL] at r
    obtain ⟨v, r1, rfl, rv, rfl⟩ := r
    exact ⟨fun Q q => q B1 H1 (Step.refl e2), fun _ B2 H2 e3 e4 Q q => hel ds pds i d hd B1 v e1 rv B2 H2 e3 e4 Q q⟩⟩) he
    (fun L es ws ds B' H' s h0 h1 h2 r pds ⟨l, l1, l2, l3⟩ => by
      have l3' : ∀ (i : Nat) (d : D), ds[i]? = some d → ∃ e, l[i]? = some (some e) ∧ Pe i d e := fun i d hd => by
        rcases l3 i d hd with ⟨z, _⟩ | ⟨_, z⟩
        · cases z
        · exact z
      have fm := filterMap_some l1 (fun i hi => by
        obtain ⟨e, a, _⟩ := l3' i _ (List.getElem?_eq_getElem hi)
        exact ⟨e, a⟩)
      subst l2
      refine k L _ ws ds B' H' s h0 h1 h2 r pds fm.1 fun i d hd => ?_
      obtain ⟨e, a, b⟩ := l3' i d hd
      exact ⟨e, fm.2 i e a, b⟩)
/-- what a comprehension's premises are -/
structure LcOk (X : Cx) (elt tg iter : Expr) (ifs : List Expr) (scope : Scope) (wi : TI) (g : TG) (tt : TT) (te : TE) (own : List (Str × Nat)) : Prop where
  hi : PI X tg iter wi
  ok : BlkOk X.N X.env.scope scope own
  hg : ∀ (s : Shared) (H : Hp) (C : Addr) (cl : List (Str × Addr)) (fp : List Addr), PG (X.blk s H scope (compEnvC scope cl C X.env) fp) tg g
  ht : ∀ (s : Shared) (H : Hp) (C : Addr) (cl : List (Str × Addr)) (fp : List Addr), PTs (X.blk s H scope (compEnvC scope cl C X.env) fp) ifs tt
  he : ∀ (s : Shared) (H : Hp) (C : Addr) (cl : List (Str × Addr)) (fp : List Addr), PE (X.blk s H scope (compEnvC scope cl C X.env) fp) elt te
  hs : ∀ x, foldedSetIterable iter X.env x = pure x
/-- a comprehension's new list, its items -/
def LC (X : Cx) (elt tg iter : Expr) (ifs : List Expr) (scope : Scope) (σ : L2.St) (B : Hp) (P : List D → Prop) : Prop :=
  ∀ B1 H, Ex B B1 → Ex B1 H → ∀ Q : VK, (∀ p ds vs B' H', Step B1 H B' H' → H p = none → B' p = none → H' p = some (.lst vs) → P ds → RpL X.K B' ds vs → Q (.ref p) H') →
    ∃ wi g tt te own, LcOk X elt tg iter ifs scope wi g tt te own ∧ tLc wi g tt te (own.map (·.2)) σ H Q
theorem LC.ef {ifs : List Expr} (h : LC X elt tg iter ifs scope σ B PL) (hN : X.N.Nodup) (hc : X.calm = true := by rfl) : EF X (.ListComp elt [⟨tg, iter, ifs, 0⟩] scope pos) σ B PL := fun B1 H e1 e2 Q k => by
  obtain ⟨wi, g, tt, te, own, O, q⟩ := h B1 H e1 e2 Q k
  exact RE.of (pe_lc hc hN O.hi O.ok O.hg O.ht O.he O.hs) q
theorem LC.imp {ifs : List Expr} {PL' : List D → Prop} (h : LC X elt tg iter ifs scope σ B PL) (q : ∀ d, PL d → PL' d) : LC X elt tg iter ifs scope σ B PL' := fun B1 H e1 e2 Q k => h B1 H e1 e2 Q fun p ds vs B' H' s h0 h1 h2 pl r => k p ds vs B' H' s h0 h1 h2 (q ds pl) r
theorem lN {j : Nat} {Pe : Nat → D → D → Prop} (hi : WI X (.Name x px) iter σ B Pds) (ok : BlkOk X.N X.env.scope scope own) (hg : Tn X scope (.Name x px) (gName j))
    (hwipe : ∀ v, wipe (set1 j (wipe σ (own.map (·.2))) v) (own.map (·.2)) = wipe σ (own.map (·.2))) (hsz : ∀ ds, Pds ds → ds.length ≤ sizeLine)
    (hel : ∀ ds, Pds ds → ∀ i d, ds[i]? = some d → ∀ B1 v, Ex B B1 → Rp X.K B1 d v → BN X scope elt ((wipe σ (own.map (·.2))).set j (some v)) B1 (Pe i d))
    (hs : ∀ x, foldedSetIterable iter X.env x = pure x := by intro _; rfl) :
    LC X elt (.Name x px) iter [] scope σ B (fun es => ∃ ds, Pds ds ∧ es.length = ds.length ∧ ∀ i d, ds[i]? = some d → ∃ e, es[i]? = some e ∧ Pe i d e) := fun B1 H e1 e2 Q k =>
  ⟨_, _, _, _, own, ⟨cI, ok, hg, fun _ _ _ _ _ => pts_nil, cBE, hs⟩, lc_all (hi B1 H e1 e2) hwipe hsz (fun ds pds i d hd B2 v e3 r B3 H3 e4 e5 Q q => (hel ds pds i d hd B2 v (e1.trans e3) r).be e4 e5 q) e2
    fun L es ws ds B' H' s h0 h1 h2 r pds l1 l2 => k L es ws B' H' s h0 h1 h2 ⟨ds, pds, l1, l2⟩ r⟩
/-- each item changed by f -/
theorem lM {j : Nat} {ds : List D} {f : D → D} (hi : WI X (.Name x px) iter σ B (Eq ds)) (ok : BlkOk X.N X.env.scope scope own) (hg : Tn X scope (.Name x px) (gName j))
    (hwipe : ∀ v, wipe (set1 j (wipe σ (own.map (·.2))) v) (own.map (·.2)) = wipe σ (own.map (·.2))) (hsz : ds.length ≤ sizeLine)
    (hel : ∀ d, d ∈ ds → ∀ B1 v, Ex B B1 → Rp X.K B1 d v → BN X scope elt ((wipe σ (own.map (·.2))).set j (some v)) B1 (Eq (f d)))
    (hs : ∀ x, foldedSetIterable iter X.env x = pure x := by intro _; rfl) :
    LC X elt (.Name x px) iter [] scope σ B (Eq (ds.map f)) :=
  (lN (Pe := fun _ d => Eq (f d)) hi ok hg hwipe (fun _ q => q ▸ hsz) (fun ds' q i d hd B1 v e1 r => hel d (q ▸ List.mem_of_getElem? hd) B1 v e1 r) hs).imp fun es ⟨ds', q, h1, h2⟩ => by
    subst q
    refine (List.ext_getElem? fun i => ?_).symm
    rw [List.getElem?_map]
    cases hd : ds[i]? with
    | none =>
      rw [List.getElem?_eq_none_iff] at hd
      rw [List.getElem?_eq_none_iff.mpr (by omega)]; rfl
    | some d =>
      obtain ⟨e, he, q⟩ := h2 i d hd
      rw [he, ← q]; rfl
/-- those that pass, changed by f -/
theorem lT {j : Nat} {ds : List D} {f : D → D} {t : D → Bool} (hi : WI X (.Name x px) iter σ B (Eq ds)) (ok : BlkOk X.N X.env.scope scope own) (hg : Tn X scope (.Name x px) (gName j))
    (hwipe : ∀ v, wipe (set1 j (wipe σ (own.map (·.2))) v) (own.map (·.2)) = wipe σ (own.map (·.2))) (hsz : ds.length ≤ sizeLine)
    (htt : ∀ d, d ∈ ds → ∀ B1 v, Ex B B1 → Rp X.K B1 d v → BTst X scope c ((wipe σ (own.map (·.2))).set j (some v)) B1 (Eq (t d)))
    (hel : ∀ d, d ∈ ds → t d = true → ∀ B1 v, Ex B B1 → Rp X.K B1 d v → BN X scope elt ((wipe σ (own.map (·.2))).set j (some v)) B1 (Eq (f d)))
    (hs : ∀ x, foldedSetIterable iter X.env x = pure x := by intro _; rfl) :
    LC X elt (.Name x px) iter [c] scope σ B (Eq ((ds.filter t).map f)) := fun B1 H e1 e2 Q k =>
  ⟨_, _, _, _, own, ⟨cI, ok, hg, fun s H C cl fp => pts_one (cBT s H C cl fp), cBE, hs⟩, lc_run (t := fun _ d => t d) (Pe := fun _ d => Eq (f d)) (Pds := Eq ds) (hi B1 H e1 e2) (gt_name j) hwipe (fun _ q => q ▸ hsz) (fun ds' q i d hd => ⟨[d], rfl, fun B2 H2 us e3 e4 r => by
      subst q
      simp only [RpL] at r
      obtain ⟨v, r1, rfl, rv, rfl⟩ := r
      exact ⟨fun Q q => (htt d (List.mem_of_getElem? hd) B2 v (e1.trans e3) rv).bt (Ex.refl B2) e4 fun b B' H' s z => z ▸ q B' H' s, fun ht B3 H3 e5 e6 Q q => (hel d (List.mem_of_getElem? hd) ht B2 v (e1.trans e3) rv).be e5 e6 q⟩⟩) e2
      (fun L es ws ds' B' H' s h0 h1 h2 r q ⟨l, l1, l2, l3⟩ => by
        subst q
        exact k L es ws B' H' s h0 h1 h2 (by rw [l2]; exact (filterMap_of l1 l3).symm) r)⟩
/-- a pair as the target, each changed by f of its parts -/
theorem lP {i j : Nat} {ds : List D} {f : D → D} {k0 : Nat} {pt : Pos} (hi : WI X (.Tuple [.Name x px, .Name y py] k0 pt) iter σ B (Eq ds)) (ok : BlkOk X.N X.env.scope scope own)
    (hg : Tn X scope (.Tuple [.Name x px, .Name y py] k0 pt) (gTup X.K 2 (gCons (gName i) (gCons (gName j) gNil))))
    (hwipe : ∀ v, wipe (set2 i j (wipe σ (own.map (·.2))) v) (own.map (·.2)) = wipe σ (own.map (·.2))) (hsz : ds.length ≤ sizeLine)
    (hel : ∀ d, d ∈ ds → ∃ a b, d = .tup [a, b] ∧ ∀ B1 v u, Ex B B1 → Rp X.K B1 a v → Rp X.K B1 b u → BN X scope elt (((wipe σ (own.map (·.2))).set i (some v)).set j (some u)) B1 (Eq (f d)))
    (hs : ∀ x, foldedSetIterable iter X.env x = pure x := by intro _; rfl) :
    LC X elt (.Tuple [.Name x px, .Name y py] k0 pt) iter [] scope σ B (Eq (ds.map f)) := fun B1 H e1 e2 Q k =>
  ⟨_, _, _, _, own, ⟨cI, ok, hg, fun _ _ _ _ _ => pts_nil, cBE, hs⟩, lc_run (t := fun _ d => true) (Pe := fun _ d => Eq (f d)) (Pds := Eq ds) (hi B1 H e1 e2) (gt_pair i j) hwipe (fun _ q => q ▸ hsz) (fun ds' q n d hd => by
      subst q
      obtain ⟨a, b, rfl, hab⟩ := hel d (List.mem_of_getElem? hd)
      refine ⟨[a, b], rfl, fun B2 H2 us e3 e4 r => ?_⟩
      simp only [RpL] at r
      obtain ⟨v, r1, rfl, rv, u, r2, rfl, ru, rfl⟩ := r
      exact ⟨fun Q q => q B2 H2 (Step.refl e4), fun _ B3 H3 e5 e6 Q q => (hab B2 v u (e1.trans e3) rv ru).be e5 e6 q⟩) e2
      (fun L es ws ds' B' H' s h0 h1 h2 r q ⟨l, l1, l2, l3⟩ => by
        subst q
        have e0 := filterMap_of (t := fun _ => true) l1 l3
        rw [List.filter_eq_self.mpr (fun _ _ => rfl)] at e0
        exact k L es ws B' H' s h0 h1 h2 (by rw [l2]; exact e0.symm) r)⟩

/-! ### blocks -/
variable {D : Ends}
theorem rb_nil (h : D.nx σ H) : RB X [] σ H D := RB.of pss_nil h
theorem rb_cons {st : Stmt} (h : RS X st σ H { D with nx := fun σ' H' => RB X rest σ' H' D }) : RB X (st :: rest) σ H D := RB.of (pss_cons cS cB) h
theorem rb_imp {D' : Ends} (h : RB X sts σ H D) (h1 : ∀ σ H, D.nx σ H → D'.nx σ H) (h2 : ∀ v H, D.rt v H → D'.rt v H) (h3 : ∀ σ H, D.bk σ H → D'.bk σ H) (h4 : ∀ σ H, D.ct σ H → D'.ct σ H) : RB X sts σ H D' := fun pins s I =>
  thn (h pins s I) fun f s' q => by
    cases f with
    | next => obtain ⟨σ', H', I', z⟩ := q; exact ⟨σ', H', I', h1 _ _ z⟩
    | brk => obtain ⟨σ', H', I', z⟩ := q; exact ⟨σ', H', I', h3 _ _ z⟩
    | cont => obtain ⟨σ', H', I', z⟩ := q; exact ⟨σ', H', I', h4 _ _ z⟩
    | ret u => obtain ⟨v, σ', H', I', r, z⟩ := q; exact ⟨v, σ', H', I', r, h2 _ _ z⟩
/-- return e -/
theorem rb_ret (he : EN X e σ B P) (hx : Ex B H) (k : ∀ v d B' H', Step B H B' H' → P d → Rp X.K B' d v → D.rt v H') : RB X (.Return (some e) pos :: rest) σ H D :=
  rb_cons (RS.of (ps_ret cE) (he B H (Ex.refl B) hx _ k))
theorem rb_retF (he : EF X e σ B PL) (hx : Ex B H) (k : ∀ p ds vs B' H', Step B H B' H' → H p = none → B' p = none → H' p = some (.lst vs) → PL ds → RpL X.K B' ds vs → D.rt (.ref p) H') : RB X (.Return (some e) pos :: rest) σ H D :=
  rb_cons (RS.of (ps_ret cE) (he B H (Ex.refl B) hx _ k))
/-- name = e -/
theorem rb_set {i : Nat} (hN : X.N.Nodup) (he : EN X e σ B P) (hx : Ex B H) (k : ∀ v d B' H', Step B H B' H' → P d → Rp X.K B' d v → RB X rest (σ.set i (some v)) H' D)
    (hi : X.N[i]? = some x := by rfl) (hl : Loc X.env.scope x := by first | exact Or.inl rfl | exact Or.inr rfl) (hs : swapsWith e (some (.Name x px)) pos.line X.env = pure false := by rfl) (hf : X.fn x = true ∨ X.env.scope.names.lookup x = some .local := by first | exact .inl rfl | exact .inr rfl) :
    RB X (.Assign [.Name x px] e pos :: rest) σ H D :=
  rb_cons (RS.of (ps_set hN hi hl cE hs hf) (he B H (Ex.refl B) hx _ k))
/-- .. a new list of one's own -/
theorem rb_setF {i : Nat} (hN : X.N.Nodup) (he : EF X e σ B PL) (hx : Ex B H) (k : ∀ p ds vs B' H', Step B H B' H' → H p = none → B' p = none → H' p = some (.lst vs) → PL ds → RpL X.K B' ds vs → RB X rest (σ.set i (some (.ref p))) H' D)
    (hi : X.N[i]? = some x := by rfl) (hl : Loc X.env.scope x := by first | exact Or.inl rfl | exact Or.inr rfl) (hs : swapsWith e (some (.Name x px)) pos.line X.env = pure false := by rfl) (hf : X.fn x = true ∨ X.env.scope.names.lookup x = some .local := by first | exact .inl rfl | exact .inr rfl) :
    RB X (.Assign [.Name x px] e pos :: rest) σ H D :=
  rb_cons (RS.of (ps_set hN hi hl cE hs hf) (he B H (Ex.refl B) hx _ k))
/-- name = [..] on one line (the name a plain local) -/
theorem rb_setLc {i : Nat} {ifs : List Expr} (hc : X.calm = true) (hN : X.N.Nodup) (he : LC X elt tg iter ifs scope σ B PL) (hx : Ex B H) (k : ∀ p ds vs B' H', Step B H B' H' → H p = none → B' p = none → H' p = some (.lst vs) → PL ds → RpL X.K B' ds vs → RB X rest (σ.set i (some (.ref p))) H' D)
    (hi : X.N[i]? = some x := by rfl) (hl : X.env.scope.names.lookup x = some .local := by rfl) (hsw : swapsWith (.ListComp elt [⟨tg, iter, ifs, 0⟩] scope pos) (some (.Name x px)) spos.line X.env = pure true := by rfl) :
    RB X (.Assign [.Name x px] (.ListComp elt [⟨tg, iter, ifs, 0⟩] scope pos) spos :: rest) σ H D := by
  obtain ⟨wi, g, tt, te, own, O, q⟩ := he B H (Ex.refl B) hx (fun v H' => RB X rest (σ.set i (some v)) H' D) k
  exact rb_cons (RS.of (ps_setLc hc hN hi hl hsw O.hi O.ok O.hg O.ht O.he O.hs) q)
/-- a, b = e, f -/
theorem rb_par {i j : Nat} {a b : Expr} {pt pt2 : Pos} {kt k2 : Nat} (hc : X.calm = true) (hN : X.N.Nodup) (ha : EA X [a, b] σ B PL) (hx : Ex B H) (hij : i ≠ j) (k : ∀ vs ds B' H', Step B H B' H' → PL ds → RpL X.K B' ds vs → ∃ v w, vs = [v, w] ∧ RB X rest ((σ.set i (some v)).set j (some w)) H' D)
    (hw : swappedStores [.Tuple [.Name x px, .Name y py] kt pt] (.Tuple [a, b] k2 pt2) X.env = pure (some [x, y]) := by rfl)
    (hi : X.N[i]? = some x := by rfl) (hj : X.N[j]? = some y := by rfl) (hlx : X.env.scope.names.lookup x = some .local := by rfl) (hly : X.env.scope.names.lookup y = some .local := by rfl) (hs : swapsWithSole [.Tuple [.Name x px, .Name y py] kt pt] (.Tuple [a, b] k2 pt2) pos.line X.env = pure false := by rfl) :
    RB X (.Assign [.Tuple [.Name x px, .Name y py] kt pt] (.Tuple [a, b] k2 pt2) pos :: rest) σ H D :=
  rb_cons (RS.of (ps_par hc hN hi hj hij hlx hly cA hw hs) (ha B H (Ex.refl B) hx _ k))
/-- if: the test is decided -/
theorem rb_if {t : Bool} (hc : ET X c σ B (Eq t)) (hx : Ex B H) (h1 : t = true → ∀ B' H', Step B H B' H' → RB X sts σ H' { D with nx := fun σ' H' => RB X rest σ' H' D }) (h2 : t = false → ∀ B' H', Step B H B' H' → RB X sts' σ H' { D with nx := fun σ' H' => RB X rest σ' H' D }) :
    RB X (.If c sts sts' pos :: rest) σ H D :=
  rb_cons (RS.of (ps_if cT cB cB) (hc B H (Ex.refl B) hx _ fun b B' H' s q => by
    subst q
    cases t with
    | true => exact iteT (h1 rfl B' H' s)
    | false => exact iteF (h2 rfl B' H' s)))
/-- .. any of both answers -/
theorem rb_ifN {Pt : Bool → Prop} (hc : ET X c σ B Pt) (hx : Ex B H) (h1 : Pt true → ∀ B' H', Step B H B' H' → RB X sts σ H' { D with nx := fun σ' H' => RB X rest σ' H' D }) (h2 : Pt false → ∀ B' H', Step B H B' H' → RB X sts' σ H' { D with nx := fun σ' H' => RB X rest σ' H' D }) :
    RB X (.If c sts sts' pos :: rest) σ H D :=
  rb_cons (RS.of (ps_if cT cB cB) (hc B H (Ex.refl B) hx _ fun b B' H' s q => by
    cases b with
    | true => exact iteT (h1 q B' H' s)
    | false => exact iteF (h2 q B' H' s)))
/-- an expression alone -/
theorem rb_drop (he : EN X e σ B P) (hx : Ex B H) (k : ∀ v d B' H', Step B H B' H' → P d → Rp X.K B' d v → RB X rest σ H' D) (hs : swapsWith e none pos.line X.env = pure false := by rfl) : RB X (.Expr e pos :: rest) σ H D :=
  rb_cons (RS.of (ps_expr cE hs) (he B H (Ex.refl B) hx _ k))
theorem rb_pass (h : RB X rest σ H D) : RB X (.Pass pos :: rest) σ H D := rb_cons (RS.of ps_pass h)
theorem rb_cont (h : D.ct σ H) : RB X (.Continue pos :: rest) σ H D := rb_cons (RS.of ps_continue h)
theorem rb_brk (h : D.bk σ H) : RB X (.Break pos :: rest) σ H D := rb_cons (RS.of ps_break h)
/-- xs.append(e), xs of one's own -/
theorem rb_append {i : Nat} {q : Addr} {vs : List V} (hq : σ[i]? = some (some (.ref q))) (h1 : B q = none) (h2 : H q = some (.lst vs)) (hz : vs.length < sizeLine) (he : EN X e σ B P) (hx : Ex B H)
    (k : ∀ v d B' H', Step B H B' H' → B' q = none → P d → Rp X.K B' d v → RB X rest σ (upd H' q (.lst (vs ++ [v]))) D)
    (hs : swapsWith (.Call (.Attribute (.Name x px) "append" apos) [e] [] p) none pos.line X.env = pure false := by rfl)
    (hpe : PE X (.Call (.Attribute (.Name x px) "append" apos) [e] [] p) (tBM X.K "list" rAppend (tVar i) (tCons (RE X e) tNil)) := by exact pe_bm PySem.F.plainAttrs_list PySem.F.slot_list_append PySem.F.type_list_append mt_append (pv _) (pa_cons cE pa_nil)) :
    RB X (.Expr (.Call (.Attribute (.Name x px) "append" apos) [e] [] p) pos :: rest) σ H D :=
  rb_cons (RS.of (ps_expr hpe hs)
    ⟨.ref q, hq, .inl ⟨rfl, _, SqL.of h2⟩, he B H (Ex.refl B) hx _ fun v d B' H' s pd r => by
      have kp := s.keep h1 h2
      exact ⟨q, vs, v, rfl, rfl, kp.2, hz, k v d B' H' s kp.1 pd r⟩⟩)
end
end Fx
set_option Elab.async false
set_option linter.all false
set_option maxRecDepth 100000
set_option maxHeartbeats 2000000
/-! Fx, part 7: loops, defs and their promises (with the guards told). -/
namespace Fx
open PySem L2

section
variable {X : Cx} {e iter tg c : Expr} {es : List Expr} {σ : L2.St} {B H : Hp} {Pds : List D → Prop} {pos : Pos} {rest body : List Stmt} {D : Ends}
/-- for: after the walked thing has come (data ds, base B', heap H'), a word Pv of the turn, the slots, the base, the heap -/
theorem rb_for {g : TG} {set : L2.St → List V → L2.St} {parts : Fx.D → Option (List Fx.D)} (hp : PassesOwn (model X.prog X.w) X.A X.env X.xe) (hc : X.calm = true) (hi : WI X tg iter σ B Pds) (hg : PG X tg g) (gt : GT X.K g set parts) (hx : Ex B H)
    (k : ∀ ds B' H', Step B H B' H' → Pds ds → ∃ Pv : Nat → L2.St → Hp → Hp → Prop, Pv 0 σ B' H' ∧ (∀ i σ1 B1 H1, Pv i σ1 B1 H1 → Ex B' B1 ∧ Ex B1 H1) ∧
      (∀ i d σ1 B1 H1, ds[i]? = some d → Pv i σ1 B1 H1 → ∃ ps, parts d = some ps ∧ ∀ B2 H2 us, Step B1 H1 B2 H2 → RpL X.K B2 ps us →
        RB X body (set σ1 us) H2 { D with nx := fun σ' H' => ∃ B3, Pv (i + 1) σ' B3 H', ct := fun σ' H' => ∃ B3, Pv (i + 1) σ' B3 H', bk := fun σ' H' => RB X rest σ' H' D }) ∧
      (∀ σ1 B1 H1, Pv ds.length σ1 B1 H1 → RB X rest σ1 H1 D))
    (hs : ∀ x, foldedSetIterable iter X.env x = pure x := by intro _; rfl) : RB X (.For tg iter body [] pos :: rest) σ H D := by
  refine rb_cons (RS.of (ps_for hp hc cI hg cB hs) (hi B H (Ex.refl B) hx _ fun J ds B' H' s pds w => ?_))
  obtain ⟨Pv, h0, hex, hturn, hend⟩ := k ds B' H' s pds
  obtain ⟨G, Y, wk, hG, hY⟩ := w
  refine for_it (g := g) (tb := fun D σ H => RB X body σ H D) (D := { D with nx := fun σ' H' => RB X rest σ' H' D }) wk (fun i σ1 H1 => ∃ B1, Pv i σ1 B1 H1) ⟨B', h0⟩ (fun i σ1 H1 _ ⟨B1, p⟩ => hG H1 ((hex i σ1 B1 H1 p).1.trans (hex i σ1 B1 H1 p).2)) (fun i v σ1 H1 H2 hi ⟨B1, p⟩ y => ?_) (fun σ1 H1 ⟨B1, p⟩ => hend σ1 B1 H1 p)
  obtain ⟨x1, x2⟩ := hex i σ1 B1 H1 p
  obtain ⟨B2, d, s2, hd, rd⟩ := hY i H1 v H2 B1 hi x1 x2 y
  obtain ⟨ps, hps, run⟩ := hturn i d σ1 B1 H1 hd p
  exact gt v d B2 H2 _ _ ps s2.bh rd hps fun us r => run B2 H2 us s2 r
/-- while: a word and a measure -/
theorem rb_while (hp : PassesOwn (model X.prog X.w) X.A X.env X.xe) (W : Nat → L2.St → Hp → Hp → Prop) {m0 : Nat} {B0 : Hp} (h0 : W m0 σ B0 H)
    (hturn : ∀ m σ1 B1 H1, W m σ1 B1 H1 → Ex B1 H1 ∧ ∃ t, ET X c σ1 B1 (Eq t) ∧ (t = true → ∀ B2 H2, Step B1 H1 B2 H2 →
      RB X body σ1 H2 { D with nx := fun σ' H' => ∃ m' B3, m' < m ∧ W m' σ' B3 H', ct := fun σ' H' => ∃ m' B3, m' < m ∧ W m' σ' B3 H', bk := fun σ' H' => RB X rest σ' H' D }) ∧ (t = false → ∀ B2 H2, Step B1 H1 B2 H2 → RB X rest σ1 H2 D)) :
    RB X (.While c body [] pos :: rest) σ H D := by
  refine rb_cons (RS.of (ps_while hp cT cB) ⟨fun m σ1 H1 => ∃ B1, W m σ1 B1 H1, ⟨m0, B0, h0⟩, fun m σ1 H1 ⟨B1, w⟩ => ?_⟩)
  obtain ⟨x1, t, ht, h1, h2⟩ := hturn m σ1 B1 H1 w
  refine ht B1 H1 (Ex.refl B1) x1 _ fun b B2 H2 s q => ?_
  subst q
  cases t with
  | true => exact iteT ⟨fun σ' H' => ∃ m' B3, m' < m ∧ W m' σ' B3 H', fun σ' H' ⟨m', B3, l, w'⟩ => ⟨m', l, B3, w'⟩, h1 rfl B2 H2 s⟩
  | false => exact iteF (h2 rfl B2 H2 s)
end

/-! ### defs -/
open PySem.Spec PyProof.Rows
/-- as FnOk, with no repr running around -/
structure FnG (P : Program) (w : World) (K : PySem.W.Frag) (mg : Str → Option Value) (base : Heap) (CX : CXT) (k : Nat) (f : Addr) (fd : FuncData) (ps : List Str) (sp : Sp) : Prop where
  len : ∀ vs H Q E, sp vs H Q E → vs.length = ps.length
  run : ∀ (A : Around) (outer : List Env) (s : Shared) (H : Hp) (args : Args) (us : List Value) (vs : List V) (Q : VK) (E : XK), Room k A → A.guards = some [] → Env0 P w K mg base A outer s H → BindsTo s fd args (ps.zip us) → Vals vs us →
    sp vs H Q E → codeAny (model P w) A (.call (.ref f) args) (CR CX outer P w H s Q E) s
section
variable {P : Program} {w : World} {K : PySem.W.Frag} {mg : Str → Option Value} {base : Heap} {CX : CXT} {k : Nat} {f : Addr} {fd : FuncData} {ps : List Str} {sp sp' : Sp}
theorem FnG.mono {j : Nat} (F : FnG P w K mg base CX j f fd ps sp) (h : j ≤ k) : FnG P w K mg base CX k f fd ps sp :=
  ⟨F.len, fun A outer s H args us vs Q E hr hG => F.run A outer s H args us vs Q E (hr.mono h) hG⟩
theorem FnG.imp (F : FnG P w K mg base CX k f fd ps sp) (h : ∀ vs H Q E, sp' vs H Q E → sp vs H Q E) : FnG P w K mg base CX k f fd ps sp' :=
  ⟨fun vs H Q E q => F.len vs H Q E (h _ _ _ _ q), fun A outer s H args us vs Q E hr hG he hb hv hs => F.run A outer s H args us vs Q E hr hG he hb hv (h _ _ _ _ hs)⟩
/-- a promise that speaks of another abstract heap of the same objects: recast ahead, recast behind -/
theorem guards_deeper {A : Around} {env : Env} (h : A.guards = some []) : (A.deeper env).guards = some [] := h
/-- THE RULE for a def by its body: the body's run from the parameters' values -/
theorem fnG_of {name qual : Str} {params : Arguments} {body : List Stmt} {scope : Scope} {dV kV doc pm cdv ct oc : Value} {an od : Option Addr} {osl : Array (Option Value)} {N : List Str}
    (lk : K.lookup f = some ⟨oc, od, .func (PySem.W.fnOf name qual params body scope dV kV doc pm an cdv ct), osl⟩) (hcd : PySem.W.codeIn K cdv qual = true) (S : FnScope N ps scope) (len : ∀ vs H Q E, sp vs H Q E → vs.length = ps.length)
    (hbody : ∀ (A : Around) (outer : List Env) (s : Shared) (H : Hp) (vs : List V) (Q : VK) (E : XK), Room k (A.deeper (envOfC qual scope s.heap.objs.size f cdv)) → A.guards = some [] → sp vs H Q E →
      RB (cxOf CX P w K mg base N qual scope f cdv A outer s H E) body (start N vs) H { nx := fun _ H' => Q .non H', rt := Q }) :
    FnG P w K mg base CX (k + 1) f (PySem.W.fnOf name qual params body scope dV kV doc pm an cdv ct) ps sp := by
  refine ⟨len, fun A outer s H args us vs Q E room hG env0 bnd rel want => ?_⟩
  have plen := len _ _ _ _ want
  have KX : K.In s.heap := env0.mod.kin.keeps fun b o e => (env0.bs b o e).1
  have lim : s.heap.NoLimit := env0.mod.nolimit.keeps fun b o e => (env0.bs b o e).1
  -- a parameter is a local or a cell
  have kinds : ∀ y ∈ ps.zip us, scope.names.lookup y.1 = some .local ∨ (scope.names.lookup y.1 = some .cell ∧ ((cellsFrom (s.heap.objs.size + 1) scope.names []).lookup y.1).isSome = true) := by
    rintro ⟨n, v⟩ hy
    rcases S.par n (List.of_mem_zip hy).1 with q | q
    · exact Or.inl q
    · exact Or.inr ⟨q, PySem.W.cellsFrom_some _ _ _ (.inl q)⟩
  refine codeAny_call_function room.depth (KX _ _ lk) rfl S.co S.gen rfl (PySem.W.codeRec_of KX hcd) (bnd _ _ _ _ ?_)
  refine wpAny_newFunctionEnv_cells S.kind kinds fun env he s1 x => ?_
  subst he
  refine ⟨lim.keeps x.toInCall.keep, codeAny_func ?_⟩
  have I : Inv (cxOf CX P w K mg base N qual scope f cdv A outer s H E) [] (start N vs) H s1 := inv_start S room.hd env0 plen rel x
  refine wpAny_mono (hbody A outer s H vs Q E (room.deeper _) hG want [] s1 I) (fun fl s' hs => ?_) fun e s' hs => hs
  match fl, hs with
  | .ret u, ⟨v, σ', H', J, rv, q⟩ => exact ⟨v, H', J.os, J.bare, J.base, J.hok, rv, q⟩
  | .next, ⟨σ', H', J, q⟩ => exact ⟨V.non, H', J.os, J.bare, J.base, J.hok, rfl, q⟩
  | .brk, ⟨_, _, _, q⟩ => exact q.elim
  | .cont, ⟨_, _, _, q⟩ => exact q.elim
/-- a def of the text from which nothing is raised -/
theorem Fun.okG {x qual : Str} {st : Stmt} {N : List Str} (F : Fun K x qual st f fd) (S : FnScope N ps (defScope st)) (len : ∀ vs H Q E, sp vs H Q E → vs.length = ps.length)
    (hbody : ∀ (cdv : Value) (A : Around) (outer : List Env) (s : Shared) (H : Hp) (vs : List V) (Q : VK) (E : XK), Room k (A.deeper (envOfC qual (defScope st) s.heap.objs.size f cdv)) → A.guards = some [] → sp vs H Q E →
      RB (cxOf CX0 P w K mg base N qual (defScope st) f cdv A outer s H E).nox (defBody st) (start N vs) H { nx := fun _ H' => Q .non H', rt := Q }) : FnG P w K mg base CX0 (k + 1) f fd ps sp := by
  obtain ⟨oc, od, kV, doc, pm, an, cdv, ct, osl, rfl, lk, hcd⟩ := F.ex
  refine fnG_of lk hcd S len fun A outer s H vs Q E hr hG hsp => ?_
  have h := hbody cdv A outer s H vs Q E hr hG hsp
  -- nothing is raised: the wish about exceptions may be any
  exact RB.of (PSs.nox (cB (X := (cxOf CX0 P w K mg base N qual (defScope st) f cdv A outer s H E).nox))) h
end

section
variable {P : Program} {w : World} {K : PySem.W.Frag} {mg : Str → Option Value} {base : Heap} {k : Nat} {f : Addr} {fd : FuncData} {ps : List Str} {sp : Sp}
/-- a def for which guards don't matter, by its body's run -/
theorem Fun.okB {x qual : Str} {st : Stmt} {N : List Str} (F : Fun K x qual st f fd) (S : FnScope N ps (defScope st)) (len : ∀ vs H Q E, sp vs H Q E → vs.length = ps.length)
    (hbody : ∀ (cdv : Value) (A : Around) (outer : List Env) (s : Shared) (H : Hp) (vs : List V) (Q : VK) (E : XK), Room k (A.deeper (envOfC qual (defScope st) s.heap.objs.size f cdv)) → sp vs H Q E →
      RB (cxOf CX0 P w K mg base N qual (defScope st) f cdv A outer s H E).nox (defBody st) (start N vs) H { nx := fun _ H' => Q .non H', rt := Q }) : FnOk P w K mg base CX0 (k + 1) f fd ps sp :=
  F.ok S len fun cdv A outer s H vs Q E hr h => ⟨_, cB, hbody cdv A outer s H vs Q E hr h⟩
theorem FnOk.g {CX : CXT} (F : FnOk P w K mg base CX k f fd ps sp) : FnG P w K mg base CX k f fd ps sp := ⟨F.len, fun A outer s H args us vs Q E hr _ => F.run A outer s H args us vs Q E hr⟩
end

section
variable {X : Cx} {CX : CXT} {k : Nat} {f C : Addr} {fd : FuncData} {ps : List Str} {sp : Sp} {dvs : List V} {ds : List Value} {E : XK} {x m : Str} {p pos apos : Pos} {e o : Expr} {es : List Expr} {ta : TE} {t : TA}
/-- the callee runs -/
theorem run_fnG {pins : List (Addr × Obj)} {σ : L2.St} {H : Hp} {s : Shared} {Q : VK} {us : List Value} {vs : List V} (F : FnG X.prog X.w X.K X.mg X.base CX k f fd ps sp) (hr : Room k X.A) (hG : X.A.guards = some []) (hb : Binds X.K fd ps ds) (hd : Vals dvs ds) (hx : Passes CX X E)
    (I : Inv X pins σ H s) (r : Vals vs us) (h : sp (vs ++ dvs) H Q E) : wpAny (model X.prog X.w) X.A (call (.ref f) us) (EP X pins σ Q) X.xe s := by
  have rel : Vals (vs ++ dvs) (us ++ ds) := r.append hd
  have ln : (us ++ ds).length = ps.length := rel.length.symm.trans (F.len _ _ _ _ h)
  refine wpAny_call (codeAny_mono (F.run X.A X.stack s H ⟨us, []⟩ (us ++ ds) (vs ++ dvs) Q E hr hG I.env0 (hb s us I.kIn ln) rel h) fun res s' hq => ?_)
  match res, hq with
  | .error e, hq => exact hx pins σ H s e s' I hq
  | .ok (.ret u), hq => exact I.after hq
  | .ok .next, hq => exact hq.elim
  | .ok .brk, hq => exact hq.elim
  | .ok .cont, hq => exact hq.elim
theorem pe_callG (F : FnG X.prog X.w X.K X.mg X.base CX k f fd ps sp) (hr : Room k X.A) (hG : X.A.guards = some []) (hg : Gl X x) (hm : X.mg x = some (.ref f)) (hk : PySem.W.keepIn X.K (.ref f) = true) (hb : Binds X.K fd ps ds) (hd : Vals dvs ds) (hx : Passes CX X E)
    (ha : PA X (e :: es) t) (hdb : (x == ("__debug__" : Str)) = false := by decide) (he : starEach (e :: es) X.env = (false, eval e X.env) :: starEach es X.env := by rfl) (hpl : (backTo pos (starEach es X.env)).any (·.1) = false := by rfl) :
    PE X (.Call (.Name x p) (e :: es) [] pos) (tCall sp dvs E t) := ⟨fun pins s σ H Q I h =>
  wpAny_Call_Name_kw (ld_glob I hg hm (PySem.W.callWith_K (h₀ := X.base) I.ok.mod.kin hk (thn (ha.run pos pins s σ H _ I h) fun us s1 ⟨vs, H1, I1, r, q⟩ => ⟨I1.kIn, run_fnG F hr hG hb hd hx I1 r q⟩) he hpl) hdb)⟩
end
end Fx
set_option Elab.async false
set_option linter.all false
set_option maxRecDepth 100000
set_option maxHeartbeats 2000000
/-! Fx, part 8: what an own class says by __len__, __bool__, __str__, __repr__, __contains__, __getitem__, __eq__. -/
namespace Fx
open PySem L2 PySem.W PyProof.Rows

section
variable {prog : Program} {w : World} {A : Around} {E : Value → Shared → Prop} {s : Shared} {K : PySem.W.Frag} {x C L f : Addr} {h₀ : Heap} {m : Str → Option Value} {ox : Obj} {od : Option Obj} {b tb v : Value}
/-- bool(v), by v's truth -/
theorem call_bool_any {Q : Value → Shared → Prop} (h : wpAny (model prog w) A.in1.in1 (truthy v) (fun k s' => Q (.bool k) s') E s) : wpAny (model prog w) A (call (.type "bool") [v]) Q E s := by
  refine callType_codes (T := "bool") (Bi := Builtin.«object.__init__») (Q₁ := fun r s₁ => ∃ k, r = .bool k ∧ Q r s₁) PySem.F.called_bool (PySem.F.typeCall_bool_1 _) PySem.F.entry_object_init ?_ ?_
  · refine codeAny_of_tree ?_
    show wpAny _ A.in1.in1 (do checkBuiltinCall "bool.__new__" ⟨[.type "bool", v], []⟩; again (.builtin "bool.__new__" ⟨[.type "bool", v], []⟩)) _ _ s
    refine wpAny_bind (wpAny_of_eq (PySem.F.newCall_bool_1 _) (wpAny_pure ⟨plainId_quiet (by decide +kernel) _, codeAny_builtin PySem.F.entry_bool_new ?_⟩))
    rw [Around.under_plainId (by decide +kernel) _]
    have tree : Builtin.«bool.__new__» ⟨[.type "bool", v], []⟩ = (do
      if !(← isType (.type "bool")) then
        rule "bool.__new__.no-type"; raiseError "TypeError" s!"bool.__new__(X): X is not a type object ({← typeNameOf (.type "bool")})"
      if !(← isSubtype (.type "bool") (.type "bool")) then
        rule "bool.__new__.no-subtype"; raiseError "TypeError" s!"bool.__new__({← typeName (.type "bool")}): {← typeName (.type "bool")} is not a subtype of bool"
      PySem.ret (.bool (← truthy v))) := rfl
    rw [tree]
    refine wpAny_bind (wpAny_pure ?_)
    refine wpAny_bind (wpAny_of_eq PySem.F.conv_sub_bool ?_)
    exact wpAny_bind (wpAny_mono h (fun k s₁ hk => wpAny_pure ⟨k, rfl, hk⟩) fun _ _ y => y)
  · rintro obj s₁ ⟨k, rfl, hq⟩
    exact ⟨PySem.typeIs_bool _ _, PySem.F.args_object_init_2 _ _, object_init_meets PySem.F.called_bool.init.lookup PySem.F.called_bool.made (by decide) prog w A.in1 _ s₁ ⟨PySem.typeIs_bool _ _, rfl, hq⟩⟩
/-- x != b where the class says == alone -/
theorem ne_K {Q : Value → Shared → Prop} (hu : A.units + 2 < cLine) (F : Fr h₀ L s.heap m) (X₀ : K.In h₀) (I : InstAt s.heap x ox C od) (hb : Looks (model prog w) s.heap (typeOf b) tb) (hn : notFirst K C tb = true)
    (hne : findIn K (.ref C) "__ne__" = some (some (.builtin "object.__ne__"))) (hm : mroIn K C (.type "object") = some true) (hs : findIn K (.ref C) "__eq__" = some (some (.ref f))) (hf : isFn K (.ref f) = true)
    (h : wpAny (model prog w) A.in1 (call (.ref f) [.ref x, b]) (fun v s' => ∃ k, v = .bool k ∧ Q (.bool (!k)) s') E s) : wpAny (model prog w) A (richCompare .NotEq (.ref x) b) Q E s := by
  have X := X₀.keeps F.keep
  have S : Slot "object" "__ne__" "object.__ne__" := PySem.F.cmp_object.ne
  -- what object.__ne__ does
  have body : ∀ R : Result → Shared → Prop, wpAny (model prog w) A.in1 (call (.ref f) [.ref x, b]) (fun v s' => ∃ k, v = .bool k ∧ R (.ok (.ret (.bool (!k)))) s') (fun e s' => R (.error e) s') s →
      wpAny (model prog w) A.in1 (Builtin.«object.__ne__» ⟨[.ref x, b], []⟩) (fun fin s' => match fin with | .done fl => R (.ok fl) s' | .again c' => c'.quiet = true ∧ codeAny (model prog w) A c' R s') (fun e s' => R (.error e) s') s := by
    intro R hR
    unfold Builtin.«object.__ne__»
    repeat (first
      | with_reducible refine wpAny_cRoomFor (show A.in1.units < cLine from Nat.lt_of_succ_lt hu) ?_
      | (refine wpAny_bind (m := callSpecialIfBound? (.ref x) (Str.ofString "__eq__") [b]) (ifBound_K X I hs hf (wpAny_mono hR (fun r s' hr => by
            obtain ⟨k, rfl, hq⟩ := hr
            repeat (first | exact hq | exact wpAny_pure hq | exact wpAny_truthy_bool hq | (refine wpAny_bind (m := truthy (.bool _)) (wpAny_truthy_bool ?_)) | wp_step)) fun _ _ e => e)))
      | wp_step)
  have one : wpAny (model prog w) A (tryCompare (.ref x) "__ne__" b) (fun r s' => ∃ v, r = some v ∧ Q v s') E s := by
    unfold tryCompare
    have hcall : wpAny (model prog w) A (call (.builtin "object.__ne__") [.ref x, b]) (fun v s' => ∃ k, v = .bool k ∧ Q (.bool k) s') E s := by
      refine wpAny_call (codeAny_call_builtin S.plain PySem.F.cmpEntry_ne (check_slot PySem.F.cmpKind_ne PySem.F.cmpSplit_ne (I.type.andThen (looks_mroIn X hm)) (PySem.F.cmpArgs_ne _ _) ?_))
      refine body (wants (fun v s' => ∃ k, v = .bool k ∧ Q (.bool k) s') E) (wpAny_mono h (fun v s' hv => ?_) fun _ _ e => e)
      obtain ⟨k, rfl, hq⟩ := hv
      exact ⟨k, rfl, !k, rfl, hq⟩
    have special : wpAny (model prog w) A (callSpecialIfBound? (.ref x) "__ne__" [b]) (fun r s' => ∃ k, r = some (.bool k) ∧ Q (.bool k) s') E s := by
      simp only [callSpecialIfBound?, bindSpecialIfBound?]
      refine wpAny_holding (wpAny_bind (wpAny_bind (wpAny_bind (I.type.here ((looks_findIn X hne).here ?_)))))
      simp only [S.bind]
      refine wpAny_bind (wpAny_askSetting (wpAny_ite ?_))
      have fin : wpAny (model prog w) A (call (.builtin "object.__ne__") ([.ref x] ++ [b]) >>= fun v => pure (some v)) (fun r s' => ∃ k, r = some (.bool k) ∧ Q (.bool k) s') E s :=
        wpAny_bind (wpAny_mono hcall (fun v s' h' => by
          obtain ⟨k, rfl, hq⟩ := h'
          exact wpAny_pure ⟨k, rfl, hq⟩) fun _ _ h' => h')
      split
      · exact wpAny_bind (wpAny_pure (wpAny_pure fin))
      · exact wpAny_tryCatch (wpAny_bind (wpAny_pure (wpAny_pure fin)))
    refine wpAny_bind (wpAny_mono special (fun r s' z => ?_) fun _ _ e => e)
    obtain ⟨k, rfl, hq⟩ := z
    exact wpAny_pure ⟨_, rfl, hq⟩
  unfold richCompare
  simp only [oneThing_ref]
  refine wpAny_holding (wpAny_bind (wpAny_cRoomFor (show A.units < cLine by omega) ?_))
  rw [cmpInfo_NotEq]
  dsimp only
  refine wpAny_bind (I.type.here (wpAny_bind (hb.here ?_)))
  split
  · rename_i q
    have e : subIn K tb (.ref C) = some false := by
      rcases Bool.or_eq_true_iff.mp hn with e | e
      · rw [beq_iff_eq.mp e] at q; simp at q
      · exact beq_iff_eq.mp e
    refine wpAny_bind ((looks_subIn X e).here ?_)
    simp only [Bool.false_eq_true, if_false]
    refine wpAny_bind (wpAny_mono one (fun r s' z => ?_) fun _ _ e => e)
    obtain ⟨v, rfl, hq⟩ := z
    exact wpAny_pure hq
  · refine wpAny_bind (wpAny_pure ?_)
    simp only [Bool.false_eq_true, if_false]
    refine wpAny_bind (wpAny_mono one (fun r s' z => ?_) fun _ _ e => e)
    obtain ⟨v, rfl, hq⟩ := z
    exact wpAny_pure hq
end
end Fx
set_option Elab.async false
set_option linter.all false
set_option maxRecDepth 100000
set_option maxHeartbeats 2000000
/-! Fx, part 9: promises by data; calls; what an own class says by its special methods. -/
namespace Fx
open PySem L2
open PySem.Spec PyProof.Rows

/-- from data with pre to data with post (perhaps new); all else stays -/
def spD (K : PySem.W.Frag) (pre : List D → Prop) (post : List D → D → Prop) : Sp := fun vs H Q _ =>
  ∃ ds B, Ex B H ∧ RpL K B ds vs ∧ pre ds ∧ ∀ v d B' H', Step B H B' H' → post ds d → Rp K B' d v → Q v H'
/-- what a body that keeps spD is to hand back -/
def Ret (K : PySem.W.Frag) (B H : Hp) (P : D → Prop) : VK := fun v H' => ∃ d B', Step B H B' H' ∧ P d ∧ Rp K B' d v
theorem Ret.of {K : PySem.W.Frag} {B H B' H' : Hp} {P : D → Prop} {v : V} {d : D} (s : Step B H B' H') (p : P d) (r : Rp K B' d v) : Ret K B H P v H' := ⟨d, B', s, p, r⟩
/-- .. behind a step -/
theorem Ret.step {K : PySem.W.Frag} {B H B' H' H'' : Hp} {P : D → Prop} {v : V} (s : Step B H B' H') (r : Ret K B' H' P v H'') : Ret K B H P v H'' := by
  obtain ⟨d, B2, s2, p, rd⟩ := r
  exact ⟨d, B2, s.trans s2, p, rd⟩
section
variable {P : Program} {w : World} {K : PySem.W.Frag} {mg : Str → Option Value} {base : Heap} {k : Nat} {f : Addr} {fd : FuncData} {ps : List Str} {pre : List D → Prop} {post : List D → D → Prop}
theorem spD_len (h : ∀ ds, pre ds → ds.length = ps.length) : ∀ vs H Q E, spD K pre post vs H Q E → vs.length = ps.length := fun vs H Q E ⟨ds, B, _, r, p, _⟩ => r.length.symm.trans (h ds p)
theorem rpl1 {H : Hp} {d : D} {vs : List V} (r : RpL K H [d] vs) : ∃ v, vs = [v] ∧ Rp K H d v := by
  simp only [RpL] at r
  obtain ⟨v, r1, rfl, h, rfl⟩ := r
  exact ⟨v, rfl, h⟩
theorem rpl2 {H : Hp} {d e : D} {vs : List V} (r : RpL K H [d, e] vs) : ∃ v u, vs = [v, u] ∧ Rp K H d v ∧ Rp K H e u := by
  simp only [RpL] at r
  obtain ⟨v, r1, rfl, h, u, r2, rfl, h2, rfl⟩ := r
  exact ⟨v, u, rfl, h, h2⟩
theorem rpl3 {H : Hp} {d e g : D} {vs : List V} (r : RpL K H [d, e, g] vs) : ∃ v u z, vs = [v, u, z] ∧ Rp K H d v ∧ Rp K H e u ∧ Rp K H g z := by
  simp only [RpL] at r
  obtain ⟨v, r1, rfl, h, u, r2, rfl, h2, z, r3, rfl, h3, rfl⟩ := r
  exact ⟨v, u, z, rfl, h, h2, h3⟩
theorem rpl4 {H : Hp} {d e g j : D} {vs : List V} (r : RpL K H [d, e, g, j] vs) : ∃ v u z y, vs = [v, u, z, y] ∧ Rp K H d v ∧ Rp K H e u ∧ Rp K H g z ∧ Rp K H j y := by
  simp only [RpL] at r
  obtain ⟨v, r1, rfl, h, u, r2, rfl, h2, z, r3, rfl, h3, y, r4, rfl, h4, rfl⟩ := r
  exact ⟨v, u, z, y, rfl, h, h2, h3, h4⟩
/-- a def by its body, for data -/
theorem Fun.okD {x qual : Str} {st : Stmt} {N : List Str} (F : Fun K x qual st f fd) (S : FnScope N ps (defScope st)) (len : ∀ ds, pre ds → ds.length = ps.length)
    (hbody : ∀ (cdv : Value) (A : Around) (outer : List Env) (s : Shared) (E : XK) (ds : List D) (vs : List V) (B H : Hp), Room k (A.deeper (envOfC qual (defScope st) s.heap.objs.size f cdv)) → Ex B H → RpL K B ds vs → pre ds →
      RB (cxOf CX0 P w K mg base N qual (defScope st) f cdv A outer s H E).nox (defBody st) (start N vs) H { nx := fun _ H' => Ret K B H (post ds) .non H', rt := Ret K B H (post ds) }) : FnOk P w K mg base CX0 (k + 1) f fd ps (spD K pre post) :=
  Fun.okB F S (spD_len len) fun cdv A outer s H vs Q E hr ⟨ds, B, hx, r, hp, kk⟩ =>
    rb_imp (hbody cdv A outer s E ds vs B H hr hx r hp) (fun _ H' ⟨d, B', s, q, z⟩ => kk _ d B' H' s q z) (fun v H' ⟨d, B', s, q, z⟩ => kk v d B' H' s q z) (fun _ _ z => z) (fun _ _ z => z)
/-- .. with the guards told -/
theorem Fun.okGD {x qual : Str} {st : Stmt} {N : List Str} (F : Fun K x qual st f fd) (S : FnScope N ps (defScope st)) (len : ∀ ds, pre ds → ds.length = ps.length)
    (hbody : ∀ (cdv : Value) (A : Around) (outer : List Env) (s : Shared) (E : XK) (ds : List D) (vs : List V) (B H : Hp), Room k (A.deeper (envOfC qual (defScope st) s.heap.objs.size f cdv)) → A.guards = some [] → Ex B H → RpL K B ds vs → pre ds →
      RB (cxOf CX0 P w K mg base N qual (defScope st) f cdv A outer s H E).nox (defBody st) (start N vs) H { nx := fun _ H' => Ret K B H (post ds) .non H', rt := Ret K B H (post ds) }) : FnG P w K mg base CX0 (k + 1) f fd ps (spD K pre post) :=
  Fun.okG F S (spD_len len) fun cdv A outer s H vs Q E hr hG ⟨ds, B, hx, r, hp, kk⟩ =>
    rb_imp (hbody cdv A outer s E ds vs B H hr hG hx r hp) (fun _ H' ⟨d, B', s, q, z⟩ => kk _ d B' H' s q z) (fun v H' ⟨d, B', s, q, z⟩ => kk v d B' H' s q z) (fun _ _ z => z) (fun _ _ z => z)
end

section
variable {X : Cx} {k : Nat} {f C : Addr} {fd : FuncData} {ps : List Str} {pre : List D → Prop} {post : List D → D → Prop} {x m : Str} {p pos apos : Pos} {e o : Expr} {es : List Expr} {σ : L2.St} {B H : Hp} {P Po : D → Prop} {PL : List D → Prop}
/-- the callee runs, here or a little deeper -/
theorem runD {A' : Around} {pins : List (Addr × Obj)} {s : Shared} {us : List Value} {vs : List V} {ds : List D} {E' : Value → Shared → Prop} (F : FnOk X.prog X.w X.K X.mg X.base CX0 k f fd ps (spD X.K pre post)) (hr : Room k A') (hfr : A'.frames = X.A.frames) (hb : Binds X.K fd ps [])
    (I : Inv X pins σ H s) (rv : Vals vs us) (hx : Ex B H) (r : RpL X.K B ds vs) (hp : pre ds) :
    wpAny (model X.prog X.w) A' (call (.ref f) us) (fun u s' => ∃ v d B' H', Inv X pins σ H' s' ∧ RelV v u ∧ Step B H B' H' ∧ post ds d ∧ Rp X.K B' d v) E' s := by
  have e0 : Env0 X.prog X.w X.K X.mg X.base A' X.stack s H := by
    have e := I.env0
    exact ⟨hfr.trans e.frames, e.mod, e.bs, e.bsz, e.funs, e.frf, e.hok, e.bare⟩
  have want : spD X.K pre post vs H (fun v H' => ∃ d B', Step B H B' H' ∧ post ds d ∧ Rp X.K B' d v) E0 := ⟨ds, B, hx, r, hp, fun v d B' H' s q z => ⟨d, B', s, q, z⟩⟩
  have hl : us.length = ps.length := rv.length.symm.trans (F.len _ _ _ _ want)
  refine wpAny_call (codeAny_mono (F.run A' X.stack s H ⟨us, []⟩ us vs _ E0 hr e0 (by
    have z := hb s us I.kIn (by simpa using hl)
    simpa using z) rv want) fun res s' hq => ?_)
  match res, hq with
  | .error e, hq => exact hq.elim
  | .ok (.ret u), hq =>
    obtain ⟨v, H', I', r', d, B', st, q, z⟩ := I.after hq
    exact ⟨v, d, B', H', I', r', st, q, z⟩
  | .ok .next, hq => exact hq.elim
  | .ok .brk, hq => exact hq.elim
  | .ok .cont, hq => exact hq.elim
theorem runG {A' : Around} {pins : List (Addr × Obj)} {s : Shared} {us : List Value} {vs : List V} {ds : List D} {E' : Value → Shared → Prop} (F : FnG X.prog X.w X.K X.mg X.base CX0 k f fd ps (spD X.K pre post)) (hr : Room k A') (hG : A'.guards = some []) (hfr : A'.frames = X.A.frames) (hb : Binds X.K fd ps [])
    (I : Inv X pins σ H s) (rv : Vals vs us) (hx : Ex B H) (r : RpL X.K B ds vs) (hp : pre ds) :
    wpAny (model X.prog X.w) A' (call (.ref f) us) (fun u s' => ∃ v d B' H', Inv X pins σ H' s' ∧ RelV v u ∧ Step B H B' H' ∧ post ds d ∧ Rp X.K B' d v) E' s := by
  have e0 : Env0 X.prog X.w X.K X.mg X.base A' X.stack s H := by
    have e := I.env0
    exact ⟨hfr.trans e.frames, e.mod, e.bs, e.bsz, e.funs, e.frf, e.hok, e.bare⟩
  have want : spD X.K pre post vs H (fun v H' => ∃ d B', Step B H B' H' ∧ post ds d ∧ Rp X.K B' d v) E0 := ⟨ds, B, hx, r, hp, fun v d B' H' s q z => ⟨d, B', s, q, z⟩⟩
  have hl : us.length = ps.length := rv.length.symm.trans (F.len _ _ _ _ want)
  refine wpAny_call (codeAny_mono (F.run A' X.stack s H ⟨us, []⟩ us vs _ E0 hr hG e0 (by
    have z := hb s us I.kIn (by simpa using hl)
    simpa using z) rv want) fun res s' hq => ?_)
  match res, hq with
  | .error e, hq => exact hq.elim
  | .ok (.ret u), hq =>
    obtain ⟨v, H', I', r', d, B', st, q, z⟩ := I.after hq
    exact ⟨v, d, B', H', I', r', st, q, z⟩
  | .ok .next, hq => exact hq.elim
  | .ok .brk, hq => exact hq.elim
  | .ok .cont, hq => exact hq.elim

/-- f(e, ..) -/
theorem en_call (F : FnG X.prog X.w X.K X.mg X.base CX0 k f fd ps (spD X.K pre post)) (hr : Room k X.A) (hG : X.A.guards = some []) (hm : X.mg x = some (.ref f)) (hk : PySem.W.keepIn X.K (.ref f) = true) (hb : Binds X.K fd ps [])
    (ha : EA X (e :: es) σ B PL) (hp : ∀ ds, PL ds → pre ds) (hg : Gl X x := by rfl) (hdb : (x == ("__debug__" : Str)) = false := by decide) (he : starEach (e :: es) X.env = (false, eval e X.env) :: starEach es X.env := by rfl) (hpl : (backTo pos (starEach es X.env)).any (·.1) = false := by rfl) :
    EN X (.Call (.Name x p) (e :: es) [] pos) σ B (fun d => ∃ ds, PL ds ∧ post ds d) := fun B1 H e1 e2 Q k =>
  RE.of (pe_callG (E := E0) F hr hG hg hm hk hb .nil pass0 cA hdb he hpl) (ha B1 H e1 e2 _ fun vs ds B' H' s pl r => by
    rw [List.append_nil]
    exact ⟨ds, B', s.bh, r, hp ds pl, fun v d B'' H'' s' q z => k v d B'' H'' (s.trans s') ⟨ds, pl, q⟩ z⟩)
theorem ed_call {ds : List D} (F : FnG X.prog X.w X.K X.mg X.base CX0 k f fd ps (spD X.K pre post)) (hr : Room k X.A) (hG : X.A.guards = some []) (hm : X.mg x = some (.ref f)) (hk : PySem.W.keepIn X.K (.ref f) = true) (hb : Binds X.K fd ps [])
    (ha : EA X (e :: es) σ B (Eq ds)) (hp : pre ds) (hg : Gl X x := by rfl) (hdb : (x == ("__debug__" : Str)) = false := by decide) (he : starEach (e :: es) X.env = (false, eval e X.env) :: starEach es X.env := by rfl) (hpl : (backTo pos (starEach es X.env)).any (·.1) = false := by rfl) :
    EN X (.Call (.Name x p) (e :: es) [] pos) σ B (post ds) := (en_call F hr hG hm hk hb ha (fun _ q => q ▸ hp) hg hdb he hpl).imp fun d ⟨ds', q, z⟩ => q ▸ z

/-! ### instances that don't change -/
theorem RpF.lookup {K : PySem.W.Frag} {H : Hp} : ∀ {fs : List (Str × D)} {gs : List (Str × V)} {n : Str}, RpF K H fs gs → match fs.lookup n with | some d => ∃ v, gs.lookup n = some v ∧ Rp K H d v | none => gs.lookup n = none
  | [], gs, n, r => by simp only [RpF] at r; subst r; rfl
  | (g, d) :: fs, gs, n, r => by
    simp only [RpF] at r
    obtain ⟨v, t, rfl, h1, h2⟩ := r
    have ih := RpF.lookup (n := n) h2
    by_cases e : n = g
    · subst e
      simp only [List.lookup_cons, beq_self_eq_true]
      exact ⟨v, rfl, h1⟩
    · have e' : (n == g) = false := beq_eq_false_iff_ne.mpr e
      simp only [List.lookup_cons, e']
      exact ih
theorem RpF.some {K : PySem.W.Frag} {H : Hp} {fs : List (Str × D)} {gs : List (Str × V)} {n : Str} {d : D} (r : RpF K H fs gs) (h : fs.lookup n = some d) : ∃ v, gs.lookup n = some v ∧ Rp K H d v := by
  have q := r.lookup (n := n)
  rw [h] at q; exact q
theorem RpF.none {K : PySem.W.Frag} {H : Hp} {fs : List (Str × D)} {gs : List (Str × V)} {n : Str} (r : RpF K H fs gs) (h : fs.lookup n = none) : gs.lookup n = none := by
  have q := r.lookup (n := n)
  rw [h] at q; exact q
theorem Rp.obj {K : PySem.W.Frag} {H : Hp} {fs : List (Str × D)} {v : V} : Rp K H (.obj C fs) v ↔ ∃ a dx gs, v = .ref a ∧ H a = some (.ins C dx gs) ∧ RpF K H fs gs := by simp only [Rp]
variable {fs : List (Str × D)} {d : D}
/-- o.n -/
theorem en_fld (c : Cls X.K C) (hn : NoAttr X.K C m) (ho : EN X o σ B (Eq (.obj C fs))) (hl : fs.lookup m = some d) (hb : attributeBase o m X.env (eval o X.env) = eval o X.env := by rfl) : EN X (.Attribute o m pos) σ B (Eq d) := fun B1 H e1 e2 Q k =>
  RE.of (pe_fld cE hb) (ho B1 H e1 e2 _ fun v d' B' H' s q r => by
    subst q
    obtain ⟨a, dx, gs, rfl, h1, h2⟩ := Rp.obj.mp r
    obtain ⟨u, hu, ru⟩ := h2.some hl
    exact ⟨a, C, dx, gs, u, rfl, s.bh _ _ h1, c, hn, hu, k u d B' H' s rfl ru⟩)
/-- o.n, a property -/
theorem en_prop {p0 : Addr} (c : Cls X.K C) (hp : PropOf X.K C m p0 f) (F : FnOk X.prog X.w X.K X.mg X.base CX0 k f fd ps (spD X.K pre post)) (hr : Room (k + 1) X.A) (hb : Binds X.K fd ps []) (ho : EN X o σ B (Eq (.obj C fs))) (hpre : pre [.obj C fs])
    (hab : attributeBase o m X.env (eval o X.env) = eval o X.env := by rfl) : EN X (.Attribute o m pos) σ B (post [.obj C fs]) := fun B1 H e1 e2 Q k =>
  RE.of (pe_prop (E := E0) cE c hp F hr hb .nil pass0 hab) (ho B1 H e1 e2 _ fun v d' B' H' s q r => by
    subst q
    have r' := r
    obtain ⟨a, dx, gs, rfl, h1, h2⟩ := Rp.obj.mp r'
    exact ⟨a, dx, gs, rfl, s.bh _ _ h1, [.obj C fs], B', s.bh, RpL.cons r RpL.nil, hpre, fun v d B'' H'' s' q z => k v d B'' H'' (s.trans s') q z⟩)
/-- o.m(e, ..) -/
theorem en_meth {pl : Sem Bool} {ds : List D} (c : Cls X.K C) (hm : Meth X.K C m f) (F : FnOk X.prog X.w X.K X.mg X.base CX0 k f fd ps (spD X.K pre post)) (hr : Room k X.A) (hb : Binds X.K fd ps []) (ho : EN X o σ B (Eq (.obj C fs))) (hl : fs.lookup m = none)
    (ha : EA X (e :: es) σ B (Eq ds)) (hpre : pre (.obj C fs :: ds)) (hst : starEach (e :: es) X.env = (false, eval e X.env) :: starEach es X.env := by rfl) (hpl : (backTo pos (starEach es X.env)).any (·.1) = false := by rfl)
    (ht : eval (.Call (.Attribute o m apos) (e :: es) [] pos) X.env = (do
      let ov ← eval o X.env
      standAt apos.atName
      let (f, first) ← holding [ov] (getMethod ov m pl)
      callWith pos f first (backTo pos (starEach (e :: es) X.env)) (backToKw pos (keywordEach [] X.env))) := by rfl) :
    EN X (.Call (.Attribute o m apos) (e :: es) [] pos) σ B (post (.obj C fs :: ds)) := fun B1 H e1 e2 Q k =>
  RE.of (pe_meth (E := E0) cE c hm F hr hb .nil pass0 cA hst hpl ht) (ho B1 H e1 e2 _ fun v d' B' H' s q r => by
    subst q
    have r' := r
    obtain ⟨a, dx, gs, rfl, h1, h2⟩ := Rp.obj.mp r'
    refine ⟨a, dx, gs, rfl, s.bh _ _ h1, h2.none hl, ha B' H' (e1.trans s.b) s.bh _ fun vs ds' B'' H'' s' q ra => ?_⟩
    subst q
    rw [List.append_nil]
    exact ⟨_, B'', s'.bh, RpL.cons (r.mono s'.b) ra, hpre, fun v d B3 H3 s3 q z => k v d B3 H3 ((s.trans s').trans s3) q z⟩)

/-! ### special methods -/
/-- the class's own method under a special name -/
structure Spc (K : PySem.W.Frag) (C : Addr) (n : Str) (f : Addr) : Prop where
  at_ : PySem.W.findIn K (.ref C) n = some (some (.ref f))
  fn : PySem.W.isFn K (.ref f) = true
theorem ins_at {pins : List (Addr × Obj)} {s : Shared} {a dx : Addr} {gs : List (Str × V)} (I : Inv X pins σ H s) (h : H a = some (.ins C dx gs)) : ∃ ox od, PySem.W.InstAt s.heap a ox C (some od) := by
  obtain ⟨mA, O, _⟩ := ins_get I.hok h
  obtain ⟨od, J, _⟩ := O.look
  exact ⟨_, od, J⟩
/-- len(o) -/
theorem cd_lenO {n : List (Str × D) → Nat} (S : Spc X.K C "__len__" f) (F : FnOk X.prog X.w X.K X.mg X.base CX0 k f fd ps (spD X.K pre post)) (hr : Room (k + 1) X.A) (hb : Binds X.K fd ps []) (hpre : pre [.obj C fs]) (hpost : ∀ d, post [.obj C fs] d → d = .int (n fs : Nat)) (hn : n fs < 2 ^ 63) :
    CD X (.builtin "len") [.obj C fs] (Eq (.int (n fs : Nat))) :=
  ⟨fun vs H Q => ∃ B, Ex B H ∧ RpL X.K B [.obj C fs] vs ∧ ∀ z d B' H', Step B H B' H' → D.int (n fs : Nat) = d → Rp X.K B' d z → Q z H', fun pins s σ H vs us Q I rv ⟨B, hx, r, kk⟩ => by
    obtain ⟨v, rfl, ro⟩ := rpl1 r
    obtain ⟨a, dx, gs, rfl, h1, h2⟩ := Rp.obj.mp ro
    obtain ⟨u, rfl, ru⟩ := vals1 rv
    cases ru
    obtain ⟨ox, od, J⟩ := ins_at I (hx _ _ h1)
    obtain ⟨mm, hF⟩ := I.fr
    refine PySem.W.len_K hF I.ok.mod.kin J S.at_ S.fn (wpAny_mono (runD F hr.in1 rfl hb I rv hx r hpre) (fun u s' ⟨v, d, B', H', I', r', st, q, z⟩ => ?_) fun _ _ e => e)
    have q' := hpost d q
    subst q'
    cases Rp.int.mp z
    obtain ⟨t, rfl⟩ := r'
    exact ⟨⟨by omega, by omega⟩, .int _, H', I'.tok _, ⟨_, rfl⟩, kk _ _ B' H' st rfl (Rp.int.mpr rfl)⟩, fun vs B H Q hx r kk => ⟨B, hx, r, kk⟩⟩
/-- bool(o) -/
theorem cd_boolO {t : List (Str × D) → Bool} (S : Spc X.K C "__bool__" f) (F : FnOk X.prog X.w X.K X.mg X.base CX0 k f fd ps (spD X.K pre post)) (hr : Room (k + 2) X.A) (hb : Binds X.K fd ps []) (hpre : pre [.obj C fs]) (hpost : ∀ d, post [.obj C fs] d → d = .bl (t fs)) :
    CD X (.type "bool") [.obj C fs] (Eq (.bl (t fs))) :=
  ⟨fun vs H Q => ∃ B, Ex B H ∧ RpL X.K B [.obj C fs] vs ∧ ∀ z d B' H', Step B H B' H' → D.bl (t fs) = d → Rp X.K B' d z → Q z H', fun pins s σ H vs us Q I rv ⟨B, hx, r, kk⟩ => by
    obtain ⟨v, rfl, ro⟩ := rpl1 r
    obtain ⟨a, dx, gs, rfl, h1, h2⟩ := Rp.obj.mp ro
    obtain ⟨u, rfl, ru⟩ := vals1 rv
    cases ru
    obtain ⟨ox, od, J⟩ := ins_at I (hx _ _ h1)
    obtain ⟨mm, hF⟩ := I.fr
    refine call_bool_any (PySem.W.truthy_K hF I.ok.mod.kin J S.at_ S.fn (wpAny_mono (runD F hr.in1.in1 rfl hb I rv hx r hpre) (fun u s' ⟨v, d, B', H', I', r', st, q, z⟩ => ?_) fun _ _ e => e))
    have q' := hpost d q
    subst q'
    cases Rp.bl.mp z
    cases r'
    exact ⟨.bl _, H', I', rfl, kk _ _ B' H' st rfl (Rp.bl.mpr rfl)⟩, fun vs B H Q hx r kk => ⟨B, hx, r, kk⟩⟩
/-- str(o) -/
theorem cd_strO {t : List (Str × D) → Str} (S : Spc X.K C "__str__" f) (F : FnOk X.prog X.w X.K X.mg X.base CX0 k f fd ps (spD X.K pre post)) (hr : Room (k + 2) X.A) (hb : Binds X.K fd ps []) (hpre : pre [.obj C fs]) (hpost : ∀ d, post [.obj C fs] d → d = .str (t fs)) :
    CD X (.type "str") [.obj C fs] (Eq (.str (t fs))) :=
  ⟨fun vs H Q => ∃ B, Ex B H ∧ RpL X.K B [.obj C fs] vs ∧ ∀ z d B' H', Step B H B' H' → D.str (t fs) = d → Rp X.K B' d z → Q z H', fun pins s σ H vs us Q I rv ⟨B, hx, r, kk⟩ => by
    obtain ⟨v, rfl, ro⟩ := rpl1 r
    obtain ⟨a, dx, gs, rfl, h1, h2⟩ := Rp.obj.mp ro
    obtain ⟨u, rfl, ru⟩ := vals1 rv
    cases ru
    obtain ⟨ox, od, J⟩ := ins_at I (hx _ _ h1)
    refine PySem.W.kso_call hr.in1.in1.units0 I.kIn J S.at_ S.fn (wpAny_mono (runD F hr.in1.in1 rfl hb I rv hx r hpre) (fun u s' ⟨v, d, B', H', I', r', st, q, z⟩ => ?_) fun _ _ e => e)
    have q' := hpost d q
    subst q'
    cases Rp.str.mp z
    obtain ⟨tk, rfl⟩ := r'
    exact ⟨.str _, H', I', ⟨_, rfl⟩, kk _ _ B' H' st rfl (Rp.str.mpr rfl)⟩, fun vs B H Q hx r kk => ⟨B, hx, r, kk⟩⟩
/-- repr(o) -/
theorem cd_reprO {t : List (Str × D) → Str} (S : Spc X.K C "__repr__" f) (F : FnG X.prog X.w X.K X.mg X.base CX0 k f fd ps (spD X.K pre post)) (hr : Room (k + 1) X.A) (hG : X.A.guards = some []) (hb : Binds X.K fd ps []) (hpre : pre [.obj C fs]) (hpost : ∀ d, post [.obj C fs] d → d = .str (t fs)) :
    CD X (.builtin "repr") [.obj C fs] (Eq (.str (t fs))) :=
  ⟨fun vs H Q => ∃ B, Ex B H ∧ RpL X.K B [.obj C fs] vs ∧ ∀ z d B' H', Step B H B' H' → D.str (t fs) = d → Rp X.K B' d z → Q z H', fun pins s σ H vs us Q I rv ⟨B, hx, r, kk⟩ => by
    obtain ⟨v, rfl, ro⟩ := rpl1 r
    obtain ⟨a, dx, gs, rfl, h1, h2⟩ := Rp.obj.mp ro
    obtain ⟨u, rfl, ru⟩ := vals1 rv
    cases ru
    obtain ⟨ox, od, J⟩ := ins_at I (hx _ _ h1)
    obtain ⟨mm, hF⟩ := I.fr
    refine PySem.W.repr_K hr.in1.units0 hF I.ok.mod.kin J S.at_ S.fn (wpAny_mono (runG F hr.in1 hG rfl hb I rv hx r hpre) (fun u s' ⟨v, d, B', H', I', r', st, q, z⟩ => ?_) fun _ _ e => e)
    have q' := hpost d q
    subst q'
    cases Rp.str.mp z
    obtain ⟨tk, rfl⟩ := r'
    exact ⟨.str _, H', I', ⟨_, rfl⟩, kk _ _ B' H' st rfl (Rp.str.mpr rfl)⟩, fun vs B H Q hx r kk => ⟨B, hx, r, kk⟩⟩
/-- y in o -/
theorem od_inO {y : D} {t : Bool} (S : Spc X.K C "__contains__" f) (F : FnOk X.prog X.w X.K X.mg X.base CX0 k f fd ps (spD X.K pre post)) (hr : Room k X.A) (hb : Binds X.K fd ps []) (hpre : pre [.obj C fs, y]) (hpost : ∀ d, post [.obj C fs, y] d → d = .bl t) :
    OD X (compareOp .In) y (.obj C fs) (Eq (.bl t)) :=
  ⟨fun v u H Q => ∃ B, Ex B H ∧ Rp X.K B y v ∧ Rp X.K B (.obj C fs) u ∧ ∀ z d B' H', Step B H B' H' → D.bl t = d → Rp X.K B' d z → Q z H', fun pins s σ H v u vv uu Q I rv ru ⟨B, hx, ry, ro, kk⟩ => by
    obtain ⟨a, dx, gs, rfl, h1, h2⟩ := Rp.obj.mp ro
    cases ru
    obtain ⟨ox, od, J⟩ := ins_at I (hx _ _ h1)
    obtain ⟨mm, hF⟩ := I.fr
    refine PySem.W.in_K hF I.ok.mod.kin J S.at_ S.fn (wpAny_mono (runD F hr rfl hb I (vs := [.ref a, v]) (.cons rfl (.cons rv .nil)) hx (RpL.cons ro (RpL.cons ry RpL.nil)) hpre) (fun u s' ⟨v, d, B', H', I', r', st, q, z⟩ => ?_) fun _ _ e => e)
    have q' := hpost d q
    subst q'
    cases Rp.bl.mp z
    cases r'
    exact wpAny_truthy_bool ⟨.bl _, H', I', rfl, kk _ _ B' H' st rfl (Rp.bl.mpr rfl)⟩, fun v u B H Q hx r1 r2 kk => ⟨B, hx, r1, r2, kk⟩⟩
/-- what stands behind the == may be: its type is known, and it is not first asked -/
def Other (X : Cx) (C : Addr) (y : D) : Prop := ∀ {pins : List (Addr × Obj)} {σ : L2.St} {H B : Hp} {s : Shared} {u : V} {uu : Value}, Inv X pins σ H s → Ex B H → Rp X.K B y u → RelV u uu → ∃ tb, PySem.W.Looks (model X.prog X.w) s.heap (typeOf uu) tb ∧ PySem.W.notFirst X.K C tb = true
theorem od_eqO {y : D} {t : Bool} (S : Spc X.K C "__eq__" f) (F : FnOk X.prog X.w X.K X.mg X.base CX0 k f fd ps (spD X.K pre post)) (hr : Room k X.A) (hb : Binds X.K fd ps []) (ho : Other X C y) (hpre : pre [.obj C fs, y]) (hpost : ∀ d, post [.obj C fs, y] d → d = .bl t) :
    OD X (compareOp .Eq) (.obj C fs) y (Eq (.bl t)) :=
  ⟨fun v u H Q => ∃ B, Ex B H ∧ Rp X.K B (.obj C fs) v ∧ Rp X.K B y u ∧ ∀ z d B' H', Step B H B' H' → D.bl t = d → Rp X.K B' d z → Q z H', fun pins s σ H v u vv uu Q I rv ru ⟨B, hx, ro, ry, kk⟩ => by
    obtain ⟨a, dx, gs, rfl, h1, h2⟩ := Rp.obj.mp ro
    cases rv
    obtain ⟨ox, od, J⟩ := ins_at I (hx _ _ h1)
    obtain ⟨mm, hF⟩ := I.fr
    obtain ⟨tb, L, nf⟩ := ho I hx ry ru
    show wpAny (model X.prog X.w) X.A (richCompare .Eq _ _) _ _ _
    refine PySem.W.cmp_K (op := .Eq) hr.units0 hF I.ok.mod.kin J L nf S.at_ S.fn (wpAny_mono (runD F hr rfl hb I (vs := [.ref a, u]) (.cons rfl (.cons ru .nil)) hx (RpL.cons ro (RpL.cons ry RpL.nil)) hpre) (fun u s' ⟨v, d, B', H', I', r', st, q, z⟩ => ?_) fun _ _ e => e)
    have q' := hpost d q
    subst q'
    cases Rp.bl.mp z
    cases r'
    exact ⟨.bl _, H', I', rfl, kk _ _ B' H' st rfl (Rp.bl.mpr rfl)⟩, fun v u B H Q hx r1 r2 kk => ⟨B, hx, r1, r2, kk⟩⟩
theorem od_neO {y : D} {t : Bool} (S : Spc X.K C "__eq__" f) (hne : PySem.W.findIn X.K (.ref C) "__ne__" = some (some (.builtin "object.__ne__"))) (hmr : PySem.W.mroIn X.K C (.type "object") = some true) (F : FnOk X.prog X.w X.K X.mg X.base CX0 k f fd ps (spD X.K pre post)) (hr : Room (k + 1) X.A) (hb : Binds X.K fd ps [])
    (ho : Other X C y) (hpre : pre [.obj C fs, y]) (hpost : ∀ d, post [.obj C fs, y] d → d = .bl t) : OD X (compareOp .NotEq) (.obj C fs) y (Eq (.bl (!t))) :=
  ⟨fun v u H Q => ∃ B, Ex B H ∧ Rp X.K B (.obj C fs) v ∧ Rp X.K B y u ∧ ∀ z d B' H', Step B H B' H' → D.bl (!t) = d → Rp X.K B' d z → Q z H', fun pins s σ H v u vv uu Q I rv ru ⟨B, hx, ro, ry, kk⟩ => by
    obtain ⟨a, dx, gs, rfl, h1, h2⟩ := Rp.obj.mp ro
    cases rv
    obtain ⟨ox, od, J⟩ := ins_at I (hx _ _ h1)
    obtain ⟨mm, hF⟩ := I.fr
    obtain ⟨tb, L, nf⟩ := ho I hx ry ru
    show wpAny (model X.prog X.w) X.A (richCompare .NotEq _ _) _ _ _
    refine ne_K (by have := hr.units; omega) hF I.ok.mod.kin J L nf hne hmr S.at_ S.fn (wpAny_mono (runD F hr.in1 rfl hb I (vs := [.ref a, u]) (.cons rfl (.cons ru .nil)) hx (RpL.cons ro (RpL.cons ry RpL.nil)) hpre) (fun u s' ⟨v, d, B', H', I', r', st, q, z⟩ => ?_) fun _ _ e => e)
    have q' := hpost d q
    subst q'
    cases Rp.bl.mp z
    cases r'
    exact ⟨t, rfl, .bl _, H', I', rfl, kk _ _ B' H' st rfl (Rp.bl.mpr rfl)⟩, fun v u B H Q hx r1 r2 kk => ⟨B, hx, r1, r2, kk⟩⟩
end
end Fx
set_option Elab.async false
set_option linter.all false
set_option maxRecDepth 100000
set_option maxHeartbeats 2000000
/-! Fx, part 10: built-ins by data. -/
namespace Fx
open PySem L2
open PySem.Spec PyProof.Rows

section
variable {X : Cx} {σ : L2.St} {B H : Hp} {x : Str} {p pos apos : Pos} {e o : Expr} {es : List Expr} {P : D → Prop} {PL : List D → Prop}
/-- a built-in class by its name -/
theorem en_ty {n : String} (hm : X.mg x = none) (hv : bootBuiltins x = some (.type n)) (hg : Gl X x := by rfl) (hn : x ≠ "__name__" := by decide) (hd : (x == ("__debug__" : Str)) = false := by decide) : EN X (.Name x pos) σ B (Eq (.ty n)) := fun B1 H _ e2 Q k =>
  RE.of (pe_bltn hg hm hv (v := .ty n) rfl hn hd) (k _ _ B1 H (Step.refl e2) rfl (by simp only [Rp]))
theorem en_cls {C : Addr} (hm : X.mg x = some (.ref C)) (hg : Gl X x := by rfl) (hd : (x == ("__debug__" : Str)) = false := by decide) : EN X (.Name x pos) σ B (Eq (.ref C)) :=
  en_glob (v := .ref C) hm rfl (by simp only [Rp]) hg hd
theorem en_gint {i : Int} {t : Tok} (hm : X.mg x = some (.int i t)) (hg : Gl X x := by rfl) (hd : (x == ("__debug__" : Str)) = false := by decide) : EN X (.Name x pos) σ B (Eq (.int i)) :=
  en_glob (v := .int i) hm ⟨t, rfl⟩ (by simp only [Rp]) hg hd
theorem en_gstr {i : Str} {t : Tok} (hm : X.mg x = some (.str i t)) (hg : Gl X x := by rfl) (hd : (x == ("__debug__" : Str)) = false := by decide) : EN X (.Name x pos) σ B (Eq (.str i)) :=
  en_glob (v := .str i) hm ⟨t, rfl⟩ (by simp only [Rp]) hg hd

/-! ### len, list, tuple, int, abs, max, min, all, any -/
theorem cd_of {f : Value} {ds : List D} {r : List V → Hp → VK → Prop} (h : CallR X f r) (k : ∀ vs B H (Q : VK), Ex B H → RpL X.K B ds vs → (∀ z d B' H', Step B H B' H' → P d → Rp X.K B' d z → Q z H') → r vs H Q) : CD X f ds P := ⟨r, h, k⟩
theorem cd_lenL {ds : List D} : CD X (.builtin "len") [.lst ds] (Eq (.int (ds.length : Nat))) := cd_of call_len_seq fun vs B H Q hx r k => by
  obtain ⟨v, rfl, rv⟩ := rpl1 r
  obtain ⟨a, xs, rfl, h1, h2⟩ := Rp.lst.mp rv
  exact ⟨a, xs, rfl, .inl (SqL.of (hx _ _ h1)), k _ _ B H (Step.refl hx) rfl (Rp.int.mpr (by rw [h2.length]))⟩
theorem cd_lenT {ds : List D} : CD X (.builtin "len") [.tup ds] (Eq (.int (ds.length : Nat))) := cd_of call_len_seq fun vs B H Q hx r k => by
  obtain ⟨v, rfl, rv⟩ := rpl1 r
  obtain ⟨a, xs, rfl, h1, h2⟩ := Rp.tup.mp rv
  exact ⟨a, xs, rfl, .inr (hx.t h1), k _ _ B H (Step.refl hx) rfl (Rp.int.mpr (by rw [h2.length]))⟩
theorem cd_lenSc {ns : List Int} : CD X (.builtin "len") [.scr ns] (Eq (.int (ns.length : Nat))) := cd_of call_len_seq fun vs B H Q hx r k => by
  obtain ⟨v, rfl, rv⟩ := rpl1 r
  simp only [Rp] at rv
  obtain ⟨a, rfl, h1⟩ := rv
  exact ⟨a, _, rfl, .inl (hx.l h1), k _ _ B H (Step.refl hx) rfl (Rp.int.mpr (by rw [List.length_map]))⟩
theorem cd_lenS {z : Str} (hz : z.length ≤ sizeLine) : CD X (.builtin "len") [.str z] (Eq (.int (z.length : Nat))) := cd_of call_len_str fun vs B H Q hx r k => by
  obtain ⟨v, rfl, rv⟩ := rpl1 r
  exact ⟨z, by rw [Rp.str.mp rv], hz, k _ _ B H (Step.refl hx) rfl (Rp.int.mpr rfl)⟩
theorem cdf_of {f : Value} {ds : List D} {r : List V → Hp → VK → Prop} {PR : List D → Prop} (h : CallR X f r) (k : ∀ vs B H (Q : VK), Ex B H → RpL X.K B ds vs → (∀ p es ws B' H', Step B H B' H' → H p = none → B' p = none → H' p = some (.lst ws) → PR es → RpL X.K B' es ws → Q (.ref p) H') → r vs H Q) : CDF X f ds PR := ⟨r, h, k⟩
theorem cdf_listL {ds : List D} : CDF X (.type "list") [.lst ds] (Eq ds) := cdf_of call_list_of fun vs B H Q hx r k => by
  obtain ⟨v, rfl, rv⟩ := rpl1 r
  obtain ⟨a, xs, rfl, h1, h2⟩ := Rp.lst.mp rv
  exact ⟨a, xs, rfl, .inl (SqL.of (hx _ _ h1)), fun l hl => k l ds xs B _ (Step.own hx hl) hl (hx.back hl) upd_same rfl h2⟩
theorem cdf_listT {ds : List D} : CDF X (.type "list") [.tup ds] (Eq ds) := cdf_of call_list_of fun vs B H Q hx r k => by
  obtain ⟨v, rfl, rv⟩ := rpl1 r
  obtain ⟨a, xs, rfl, h1, h2⟩ := Rp.tup.mp rv
  exact ⟨a, xs, rfl, .inr (hx.t h1), fun l hl => k l ds xs B _ (Step.own hx hl) hl (hx.back hl) upd_same rfl h2⟩
theorem cd_tupL {ds : List D} : CD X (.type "tuple") [.lst ds] (Eq (.tup ds)) := cd_of call_tuple_of fun vs B H Q hx r k => by
  obtain ⟨v, rfl, rv⟩ := rpl1 r
  obtain ⟨a, xs, rfl, h1, h2⟩ := Rp.lst.mp rv
  exact ⟨a, xs, rfl, .inl ⟨SqL.of (hx _ _ h1), fun l hl => k _ _ _ _ (Step.alloc hx hl) rfl (Rp.tup.mpr ⟨l, xs, rfl, SqT.of upd_same, h2.mono (Ex.new (hx.back hl))⟩)⟩⟩
theorem cd_tupT {ds : List D} : CD X (.type "tuple") [.tup ds] (Eq (.tup ds)) := cd_of call_tuple_of fun vs B H Q hx r k => by
  obtain ⟨v, rfl, rv⟩ := rpl1 r
  have rv' := rv
  obtain ⟨a, xs, rfl, h1, h2⟩ := Rp.tup.mp rv'
  exact ⟨a, xs, rfl, .inr ⟨hx.t h1, k _ _ B H (Step.refl hx) rfl rv⟩⟩
theorem cd_int {i : Int} : CD X (.type "int") [.int i] (Eq (.int i)) := cd_of call_int1 fun vs B H Q hx r k => by
  obtain ⟨v, rfl, rv⟩ := rpl1 r
  exact .inl ⟨i, by rw [Rp.int.mp rv], k _ _ B H (Step.refl hx) rfl (Rp.int.mpr rfl)⟩
theorem cd_intB {b : Bool} : CD X (.type "int") [.bl b] (Eq (.int (if b then 1 else 0))) := cd_of call_int1 fun vs B H Q hx r k => by
  obtain ⟨v, rfl, rv⟩ := rpl1 r
  exact .inr ⟨b, by rw [Rp.bl.mp rv], k _ _ B H (Step.refl hx) rfl (Rp.int.mpr rfl)⟩
theorem cd_abs {i : Int} : CD X (.builtin "abs") [.int i] (Eq (.int (if i < 0 then -i else i))) := cd_of call_abs fun vs B H Q hx r k => by
  obtain ⟨v, rfl, rv⟩ := rpl1 r
  exact ⟨i, by rw [Rp.int.mp rv], k _ _ B H (Step.refl hx) rfl (Rp.int.mpr rfl)⟩
theorem cd_max (hc : X.calm = true) {i j : Int} : CD X (.builtin "max") [.int i, .int j] (Eq (.int (if j > i then j else i))) := cd_of (call_max2 hc) fun vs B H Q hx r k => by
  obtain ⟨v, u, rfl, rv, ru⟩ := rpl2 r
  exact ⟨i, j, by rw [Rp.int.mp rv, Rp.int.mp ru], k _ _ B H (Step.refl hx) rfl (Rp.int.mpr rfl)⟩
theorem cd_min (hc : X.calm = true) {i j : Int} : CD X (.builtin "min") [.int i, .int j] (Eq (.int (if j < i then j else i))) := cd_of (call_min2 hc) fun vs B H Q hx r k => by
  obtain ⟨v, u, rfl, rv, ru⟩ := rpl2 r
  exact ⟨i, j, by rw [Rp.int.mp rv, Rp.int.mp ru], k _ _ B H (Step.refl hx) rfl (Rp.int.mpr rfl)⟩
theorem cd_divmod {i j : Int} (h : CDiv i j) : CD X (.builtin "divmod") [.int i, .int j] (Eq (.tup [.int (i / j), .int (i % j)])) := cd_of call_divmod fun vs B H Q hx r k => by
  obtain ⟨v, u, rfl, rv, ru⟩ := rpl2 r
  exact ⟨i, j, by rw [Rp.int.mp rv, Rp.int.mp ru], h, fun q hq => k _ _ _ _ (Step.alloc hx hq) rfl (Rp.tup.mpr ⟨q, _, rfl, SqT.of upd_same, RpL.cons (Rp.int.mpr rfl) (RpL.cons (Rp.int.mpr rfl) RpL.nil)⟩)⟩
theorem cd_all (hc : X.calm = true) {bs : List Bool} : CD X (.builtin "all") [.lst (D.bls bs)] (Eq (.bl (bs.all id))) := cd_of (cr_all hc) fun vs B H Q hx r k => by
  obtain ⟨v, rfl, rv⟩ := rpl1 r
  obtain ⟨a, xs, rfl, h1, h2⟩ := Rp.lst.mp rv
  cases RpL.bls.mp h2
  exact ⟨a, bs, rfl, SqL.of (hx _ _ h1), k _ _ B H (Step.refl hx) rfl (Rp.bl.mpr rfl)⟩
theorem cd_any (hc : X.calm = true) {bs : List Bool} : CD X (.builtin "any") [.lst (D.bls bs)] (Eq (.bl (bs.any id))) := cd_of (cr_any hc) fun vs B H Q hx r k => by
  obtain ⟨v, rfl, rv⟩ := rpl1 r
  obtain ⟨a, xs, rfl, h1, h2⟩ := Rp.lst.mp rv
  cases RpL.bls.mp h2
  exact ⟨a, bs, rfl, SqL.of (hx _ _ h1), k _ _ B H (Step.refl hx) rfl (Rp.bl.mpr rfl)⟩

/-! ### isinstance -/
/-- an own class whose instances can be asked for their class -/
structure OwnTy (K : PySem.W.Frag) (C : Addr) : Prop where
  cl : Cls K C
  ha : PySem.W.findIn K (.ref C) "__class__" = some (some (.builtin "object.__class__"))
  hn : PySem.W.specialIn K (.builtin "object.__class__") "__get__" = some (some (.builtin "getset_descriptor.__get__"))
  htk : PySem.W.takesIn K (.builtin "object.__class__") = some true
  hm : PySem.W.mroIn K C (.type "object") = some true
/-- the data's type -/
def TyD (K : PySem.W.Frag) : D → Value → Prop
  | .non, t => t = .type "NoneType"
  | .bl _, t => t = .type "bool"
  | .int _, t => t = .type "int"
  | .str _, t => t = .type "str"
  | .lst _, t => t = .type "list"
  | .tup _, t => t = .type "tuple"
  | .dic _, t => t = .type "dict"
  | .obj C _, t => t = .ref C ∧ OwnTy K C
  | _, _ => False
theorem tyD_of {K : PySem.W.Frag} {d : D} {t : Value} {v : V} (h : TyD K d t) (r : Rp K B d v) : TyX K B v t := by
  cases d with
  | non => cases h; rw [Rp.non.mp r]; exact .base .non
  | bl b => cases h; rw [Rp.bl.mp r]; exact .base (.bl b)
  | int b => cases h; rw [Rp.int.mp r]; exact .base (.int b)
  | str b => cases h; rw [Rp.str.mp r]; exact .base (.str b)
  | lst ds =>
    cases h
    obtain ⟨a, xs, rfl, h1, _⟩ := Rp.lst.mp r
    exact .base (.lst h1)
  | tup ds =>
    cases h
    obtain ⟨a, xs, rfl, h1, _⟩ := Rp.tup.mp r
    rcases h1 with (h1 | ⟨o, h1⟩) | ⟨o, its, n, hk, hc, _⟩
    · exact .base (.tup h1)
    · exact .fTuple h1
    · exact .kTuple hk hc
  | dic ds =>
    cases h
    simp only [Rp] at r
    obtain ⟨a, xs, rfl, h1, _⟩ := r
    rcases h1 with h1 | ⟨o, h1⟩
    · exact .base (.dK h1)
    · exact .fDict h1
  | obj C fs =>
    obtain ⟨rfl, q⟩ := h
    obtain ⟨a, dx, gs, rfl, h1, _⟩ := Rp.obj.mp r
    exact .base (.ins h1 q.cl q.ha q.hn q.htk q.hm)
  | ref _ => exact h.elim
  | ty _ => exact h.elim
  | pot => exact h.elim
  | scr _ => exact h.elim
theorem cd_isi {d : D} {n : String} {t : Value} {b : Bool} (h : TyD X.K d t) (hk : PySem.W.kitOne X.K t (.type n) = some b) : CD X (.builtin "isinstance") [d, .ty n] (Eq (.bl b)) := cd_of call_isi fun vs B H Q hx r k => by
  obtain ⟨v, u, rfl, rv, ru⟩ := rpl2 r
  simp only [Rp] at ru
  subst ru
  exact ⟨v, .ty n, t, .type n, b, rfl, .ty n, tyD_of h (rv.mono hx), hk, k _ _ B H (Step.refl hx) rfl (Rp.bl.mpr rfl)⟩
theorem cd_isiO {d : D} {C : Addr} {t : Value} {b : Bool} (h : TyD X.K d t) (hk : PySem.W.kitOne X.K t (.ref C) = some b) : CD X (.builtin "isinstance") [d, .ref C] (Eq (.bl b)) := cd_of call_isi fun vs B H Q hx r k => by
  obtain ⟨v, u, rfl, rv, ru⟩ := rpl2 r
  simp only [Rp] at ru
  subst ru
  exact ⟨v, .ref C, t, .ref C, b, rfl, .own C, tyD_of h (rv.mono hx), hk, k _ _ B H (Step.refl hx) rfl (Rp.bl.mpr rfl)⟩
/-- isinstance(e, (T1, T2)) -/
theorem en_isi2 {n m : String} {a b : Expr} {d : D} {t : Value} {r : Bool} {k1 : Nat} {tpos : Pos} (hm : X.mg "isinstance" = none) (he : EN X e σ B (Eq d)) (ha : EN X a σ B (Eq (.ty n))) (hb : EN X b σ B (Eq (.ty m))) (h : TyD X.K d t) (hk : PySem.W.kitAny X.K t [.type n, .type m] = some r)
    (hg : Gl X "isinstance" := by rfl) (hs : starEach [e, .Tuple [a, b] k1 tpos] X.env = (false, eval e X.env) :: starEach [.Tuple [a, b] k1 tpos] X.env := by rfl) (hs1 : starEach [.Tuple [a, b] k1 tpos] X.env = (false, eval (.Tuple [a, b] k1 tpos) X.env) :: starEach [] X.env := by rfl)
    (hs2 : starEach [a, b] X.env = (false, eval a X.env) :: starEach [b] X.env := by rfl) (hs3 : starEach [b] X.env = (false, eval b X.env) :: starEach [] X.env := by rfl) (hpl : (backTo pos (starEach [.Tuple [a, b] k1 tpos] X.env)).any (·.1) = false := by rfl) :
    EN X (.Call (.Name "isinstance" p) [e, .Tuple [a, b] k1 tpos] [] pos) σ B (Eq (.bl r)) := fun B1 H e1 e2 Q k =>
  RE.of (pe_callB call_isiT hg hm (by decide +kernel) (pa_cons cE (pa_cons (pe_tup (pa_cons cE (pa_cons cE pa_nil hs3) hs2)) pa_nil hs1) hs) (by decide) (by decide) hs hpl)
    (he B1 H e1 e2 _ fun v d' B2 H2 s q rv => ha B2 H2 (e1.trans s.b) s.bh _ fun u d2 B3 H3 s2 q2 ru => hb B3 H3 ((e1.trans s.b).trans s2.b) s2.bh _ fun w d3 B4 H4 s3 q3 rw_ => by
      subst q; subst q2; subst q3
      simp only [Rp] at ru rw_
      subst ru; subst rw_
      refine ⟨by show 2 ≤ sizeLine; decide, fun q hq => ?_⟩
      have st := ((s.trans s2).trans s3).trans (Step.alloc (o := .tup [.ty n, .ty m]) s3.bh hq)
      exact ⟨v, q, [.ty n, .ty m], t, [.type n, .type m], r, rfl, upd_same, .cons (.ty n) (.cons (.ty m) .nil), tyD_of h (rv.mono (s2.b.trans (s3.b.trans (s3.bh.trans (Ex.new hq))))), hk, k _ _ _ _ st rfl (Rp.bl.mpr rfl)⟩)

/-! ### repr of plain data -/
theorem repr_dp (hG : X.A.guards = some []) (hu : X.A.units + 66 < cLine) : CallR X (.builtin "repr") (fun xs H Q => ∃ v d, xs = [v] ∧ Dp X.K H v d ∧ d.showable = true ∧ d.hasDict = false ∧ d.depth ≤ 64 ∧ d.shown.length ≤ sizeLine ∧ Q (.str d.shown) H) := by
  intro pins s σ H xs us Q I r h
  obtain ⟨v, d, rfl, hd, hs, hnd, hdp, hz, q⟩ := h
  obtain ⟨u, rfl, ru⟩ := vals1 r
  obtain ⟨as, rd⟩ := Dp.reads I d v u hd ru
  cases hd with
  | non =>
    cases ru
    exact PySem.P.repr_of_none ⟨.str _, H, I.tok _, ⟨_, rfl⟩, by rw [PyData.shown] at q; exact q⟩
  | bl b =>
    cases ru
    refine PySem.P.repr_of_bool ⟨.str _, H, I.tok _, ⟨_, rfl⟩, ?_⟩
    rw [PyData.shown] at q
    cases b <;> exact q
  | int i =>
    obtain ⟨t, rfl⟩ := ru
    rw [PyData.shown] at q
    exact PySem.P.repr_of_int (by simpa [PyData.showable] using hs) ⟨.str _, H, I.tok _, ⟨_, rfl⟩, q⟩
  | str z =>
    obtain ⟨t, rfl⟩ := ru
    rw [PyData.shown] at q hz
    exact PySem.P.repr_of_str ⟨.str _, H, I.tok _, ⟨_, rfl⟩, q⟩ hz
  | lst hq ha =>
    cases ru
    exact repr_of_reads' rd hs (fun z => by rw [hnd] at z; cases z) hG (by omega) (fun _ _ z => z) (fun h' u tk hk => ⟨.str _, H, I.kept (t' := tk) hk, ⟨_, rfl⟩, q⟩) hz
  | tup hq ha =>
    cases ru
    exact repr_of_reads' rd hs (fun z => by rw [hnd] at z; cases z) hG (by omega) (fun _ _ z => z) (fun h' u tk hk => ⟨.str _, H, I.kept (t' := tk) hk, ⟨_, rfl⟩, q⟩) hz
mutual
theorem D.noDict : ∀ d : D, d.py.hasDict = false
  | .non => by simp [D.py, PyData.hasDict]
  | .bl _ => by simp [D.py, PyData.hasDict]
  | .int _ => by simp [D.py, PyData.hasDict]
  | .str _ => by simp [D.py, PyData.hasDict]
  | .lst ds => by simp [D.py, PyData.hasDict, D.noDicts ds]
  | .tup ds => by simp [D.py, PyData.hasDict, D.noDicts ds]
  | .ref _ => by simp [D.py, PyData.hasDict]
  | .ty _ => by simp [D.py, PyData.hasDict]
  | .obj _ _ => by simp [D.py, PyData.hasDict]
  | .dic _ => by simp [D.py, PyData.hasDict]
  | .pot => by simp [D.py, PyData.hasDict]
  | .scr _ => by simp [D.py, PyData.hasDict]
theorem D.noDicts : ∀ ds : List D, PyData.hasDictAll (D.pys ds) = false
  | [] => by simp [D.pys, PyData.hasDictAll]
  | d :: ds => by simp [D.pys, PyData.hasDictAll, D.noDict d, D.noDicts ds]
end
theorem cd_repr {d : D} (hG : X.A.guards = some []) (hu : X.A.units + 66 < cLine) (hp : d.plain = true) (hs : d.py.showable = true) (hd : d.py.depth ≤ 64) (hz : d.py.shown.length ≤ sizeLine) : CD X (.builtin "repr") [d] (Eq (.str d.py.shown)) := cd_of (repr_dp hG hu) fun vs B H Q hx r k => by
  obtain ⟨v, rfl, rv⟩ := rpl1 r
  exact ⟨v, d.py, rfl, (rv.mono hx).dp hp, hs, D.noDict d, hd, hz, k _ _ B H (Step.refl hx) rfl (Rp.str.mpr rfl)⟩
/-- {e!r} of plain data that is a list or a tuple -/
theorem en_fmtR {d : D} (he : EN X e σ B (Eq d)) (hl : (∃ ds, d = .lst ds) ∨ ∃ ds, d = .tup ds) (hG : X.A.guards = some []) (hu : X.A.units + 66 < cLine) (hp : d.plain = true) (hs : d.py.showable = true) (hd : d.py.depth ≤ 64) (hz : d.py.shown.length ≤ sizeLine) : EN X (.FormattedValue e 114 none pos) σ B (Eq (.str d.py.shown)) := fun B1 H e1 e2 Q k pins s I => by
  refine wpAny_FormattedValue_repr (thn (he B1 H e1 e2 (fun v H' => ∃ B', Step B1 H B' H' ∧ Rp X.K B' d v) (fun v d' B' H' s q r => ⟨B', s, q ▸ r⟩) pins s I) fun u s1 hv => ?_)
  obtain ⟨v, H', I', ru, B', st, rd⟩ := hv
  obtain ⟨as, rr⟩ := Dp.reads I' d.py v u ((rd.mono st.bh).dp hp) ru
  have ref : ∃ a, u = .ref a := by
    rcases hl with ⟨ds, rfl⟩ | ⟨ds, rfl⟩
    · obtain ⟨a, xs, rfl, _⟩ := Rp.lst.mp rd; exact ⟨a, ru⟩
    · obtain ⟨a, xs, rfl, _⟩ := Rp.tup.mp rd; exact ⟨a, ru⟩
  obtain ⟨a, rfl⟩ := ref
  refine pyReprObj_of_reads rr hs (fun z => by rw [D.noDict d] at z; cases z) hG (by omega) (fun _ _ z => z) (fun h' u tk hk => ?_) hz
  have I2 : Inv X pins σ H' { s1 with heap := h', toks := tk } := I'.kept (t' := tk) hk
  have fin := k _ _ B' H' st rfl (Rp.str.mpr rfl)
  exact wpAny_formatField_str ⟨.str _, H', I2, ⟨_, rfl⟩, fin⟩ ⟨.str _, H', I2.tok _, ⟨_, rfl⟩, fin⟩ hz
end
end Fx
set_option Elab.async false
set_option linter.all false
set_option maxRecDepth 100000
set_option maxHeartbeats 2000000
/-! Fx, part 11: the law's own end (with the guards told), defs with defaults. -/
namespace Fx
open PySem L2
open PySem.Spec PyProof.Rows

/-- the law's call over an abstract heap in which the script may stand locked -/
theorem lawAt {P : Program} {w : World} {K : PySem.W.Frag} {mg mb : Str → Option Value} {k : Nat} {fa a : Addr} {fd : FuncData} {x : Str} {s : Shared} {vs : List Value} {ns : List Int} {H : Hp} {sp : Sp}
    (KX : K.In s.heap) (hns : s.heap.Ns mainGlobals mg) (hb : s.heap.Ns builtinsNs mb) (hbb : ∀ x : Str, x ≠ "__name__" → mb x = bootBuiltins x) (hlim : s.heap.NoLimit) (hg : s.gens = #[])
    (ha : s.heap.get? a = some { cls := .type "list", data := .seq vs.toArray }) (room : Room k callerA)
    (F : ∀ base : Heap, K.In base → base.Ns mainGlobals mg → FnG P w K mg base CX0 k fa fd [x] sp) (hbind : ∀ (s : Shared) (u : Value), BindsTo s fd ⟨[u], []⟩ [(x, u)])
    (hH : ∀ b, H b = none ∨ (b = a ∧ K.lookup a = none ∧ H b = some (.frz { cls := .type "list", data := .seq vs.toArray } (.lst (ns.map V.int))))) (hok : HOk P w H s.heap) (hsp : sp [.ref a] H (fun v _ => v = .bl true) fun _ _ _ => False) :
    codeAny (model P w) callerA (.call (.ref fa) ⟨[.ref a], []⟩) (fun r s' => r = .ok (.ret (.bool true)) ∧ OldK s.heap s'.heap ∧ s'.os = s.os ∧ AllBare s'.gens) s := by
  -- the base: all that isn't tracked
  have lift : ∀ {b : Addr} {o : Obj}, s.heap.get? b = some o → b ≠ a → (hidT s.heap H).get? b = some o := fun {b o} e n => hidT_get e ((hH b).resolve_right fun z => n z.1)
  have names : ∀ {b : Addr} {m : Str → Option Value}, s.heap.Ns b m → (hidT s.heap H).Ns b m := by
    rintro b m ⟨o, es, ep, e, d, r⟩
    refine ⟨o, es, ep, lift e ?_, d, r⟩
    rintro rfl
    rw [ha] at e
    cases e
    have d' : Data.seq vs.toArray _ = Data.dict es ep := d
    cases d'
  have kin : K.In (hidT s.heap H) := fun b o e => by
    rcases hH b with n | ⟨rfl, n, _⟩
    · exact hidT_get (KX b o e) n
    · rw [n] at e; cases e
  have modl : Mod K mg (hidT s.heap H) := ⟨kin, names hns, ⟨mb, names hb, hbb⟩, by obtain ⟨mc, h1, h2⟩ := hlim; exact ⟨mc, names h1, h2⟩⟩
  have env0 : Env0 P w K mg (hidT s.heap H) callerA [] s H := ⟨rfl, modl, fun b o e => of_hidT e, Nat.le_of_eq (hidT_size _ _), trivial, fun b z => absurd (show b ∈ ([] : List Addr) from z) List.not_mem_nil, hok, .of_eq hg⟩
  refine codeAny_mono ((F _ kin (names hns)).run callerA [] s H ⟨[.ref a], []⟩ [.ref a] [.ref a] _ _ room rfl env0 (hbind s (.ref a)) (.cons rfl .nil) hsp) fun r s' h => ?_
  match r, h with
  | .error e, h => exact False.elim h
  | .ok .next, h => exact False.elim h
  | .ok .brk, h => exact False.elim h
  | .ok .cont, h => exact False.elim h
  | .ok (.ret u), ⟨v, H', os, bare, un, hok', ru, q⟩ =>
    have q' : v = .bl true := q
    subst q'
    cases (show u = Value.bool true from ru)
    refine ⟨rfl, OldK.of_keep fun b o e => ?_, os, bare⟩
    rcases hH b with n | ⟨_, _, z⟩
    · exact un.keep b o e n (fun z => absurd (show b ∈ ([] : List Addr) from z) List.not_mem_nil) List.not_mem_nil
    · have z2 := un.frzs b _ _ z
      have h1 := (hok b _ z).1
      have h2 := (hok' b _ z2).1
      rw [e] at h1
      rw [h2, ← h1]
/-- the goal that the head leaves, from the law's promise by data -/
theorem walkG {l : PySem.W.OpenLaw} {n k : Nat} {q : Program} {loose : List Str} {XP : (Str → Option Value) → Heap → Prop} {YP : World → Heap → Prop} {d : DefRec} {K : Params → PySem.W.Frag} {x : Str}
    (hn : l.most = some n) (hn2 : n ≤ sizeLine) (hdf : d.params.defaults = []) (hr : Room k callerA) (hY : ∀ (w : World) (h : Heap), YP w h → (K w.params).In h)
    (F : ∀ (w : World) (mg : Str → Option Value) (fa : Addr) (h : Heap), (K w.params).In h → h.Ns mainGlobals mg → mg d.name = some (.ref fa) →
      ∃ fd : FuncData, (∀ (s : Shared) (u : Value), BindsTo s fd ⟨[u], []⟩ [(x, u)]) ∧ ∀ base : Heap, (K w.params).In base → base.Ns mainGlobals mg →
        FnG l.prog w (K w.params) mg base CX0 k fa fd [x] (spD (K w.params) (fun ds => ∃ ns : List Int, ds = [.scr ns] ∧ ns.length ≤ n) (fun _ d => d = .bl true))) :
    PySem.W.WalkO q loose XP YP l.row.toRowW d [] (fun f vs => PySem.call f vs) := by
  refine Att.attach_call hn hdf fun w s₀ s₁ mg mb fa o pm cd doc a vs ns G Y ho hd hcd hmg hobj hints hlen hg => ?_
  have KX := hY w _ Y
  obtain ⟨fd, hb, hF⟩ := F w mg fa _ KX G.T.g hmg
  have rv : Vals (ns.map V.int) vs := vals_ints hints
  have hl : ns.length ≤ sizeLine := Nat.le_trans hlen hn2
  have want : ∀ H : Hp, SqL (K w.params) H a (ns.map V.int) → spD (K w.params) (fun ds => ∃ ns : List Int, ds = [.scr ns] ∧ ns.length ≤ n) (fun _ d => d = .bl true) [.ref a] H (fun v _ => v = .bl true) fun _ _ _ => False := fun H hS =>
    ⟨[.scr ns], H, Ex.refl H, RpL.cons (by simp only [Rp]; exact ⟨a, rfl, hS⟩) RpL.nil, ⟨ns, rfl, hlen⟩, fun v d B' H' _ q r => by subst q; exact Rp.bl.mp r⟩
  cases hk : (K w.params).lookup a with
  | some o =>
    have e := KX a o hk
    rw [hobj] at e
    cases e
    exact lawAt KX G.T.g G.T.b G.T.builtins G.T.nolimit hg hobj hr hF hb (H := fun _ => none) (ns := ns) (fun _ => .inl rfl) (fun _ _ z => by cases z)
      (want _ (.inr ⟨_, vs.toArray, _, hk, rfl, rfl, rfl, by rw [List.size_toArray, ← rv.length, List.length_map]; exact hl, by simpa using rv⟩))
  | none =>
    refine lawAt KX G.T.g G.T.b G.T.builtins G.T.nolimit hg hobj hr hF hb (ns := ns) (H := upd (fun _ => none) a (.frz { cls := .type "list", data := .seq vs.toArray } (.lst (ns.map V.int)))) (fun b => ?_) (fun b u z => ?_) (want _ (.inl (.inr ⟨_, upd_same⟩)))
    · by_cases h : b = a
      · subst h; exact .inr ⟨rfl, hk, upd_same⟩
      · exact .inl (upd_ne h)
    · by_cases h : b = a
      · subst h
        rw [upd_same] at z
        cases z
        exact ⟨hobj, by rw [List.length_map]; exact hl, vs, _, rv, hobj⟩
      · rw [upd_ne h] at z; cases z

/-! ### defs as they stand behind the top, whatever their defaults -/
structure FunA (K : PySem.W.Frag) (x qual : Str) (st : Stmt) (f : Addr) (fd : FuncData) : Prop where
  ex : ∃ (oc : Value) (od : Option Addr) (dV kV doc pm : Value) (an : Option Addr) (cdv ct : Value) (osl : Array (Option Value)),
    fd = PySem.W.fnOf x qual (defArgs st) (defBody st) (defScope st) dV kV doc pm an cdv ct ∧ K.lookup f = some ⟨oc, od, .func fd, osl⟩ ∧ PySem.W.codeIn K cdv qual = true
  kp : PySem.W.keepIn K (.ref f) = true
section
variable {P : Program} {w : World} {K : PySem.W.Frag} {mg : Str → Option Value} {base : Heap} {k : Nat} {f : Addr} {fd : FuncData} {ps : List Str} {pre : List D → Prop} {post : List D → D → Prop} {x qual : Str} {st : Stmt} {N : List Str}
theorem funA_mk {oc : Value} {od an : Option Addr} {osl : Array (Option Value)} {dV kV doc pm cdv ct : Value} (l : K.lookup f = some ⟨oc, od, .func (PySem.W.fnOf x qual (defArgs st) (defBody st) (defScope st) dV kV doc pm an cdv ct), osl⟩)
    (c : PySem.W.codeIn K cdv qual = true) (kp : PySem.W.keepIn K (.ref f) = true) : FunA K x qual st f (PySem.W.fnOf x qual (defArgs st) (defBody st) (defScope st) dV kV doc pm an cdv ct) := ⟨⟨oc, od, dV, kV, doc, pm, an, cdv, ct, osl, rfl, l, c⟩, kp⟩
theorem FunA.okB {sp : Sp} (F : FunA K x qual st f fd) (S : FnScope N ps (defScope st)) (len : ∀ vs H Q E, sp vs H Q E → vs.length = ps.length)
    (hbody : ∀ (cdv : Value) (A : Around) (outer : List Env) (s : Shared) (H : Hp) (vs : List V) (Q : VK) (E : XK), Room k (A.deeper (envOfC qual (defScope st) s.heap.objs.size f cdv)) → sp vs H Q E →
      RB (cxOf CX0 P w K mg base N qual (defScope st) f cdv A outer s H E).nox (defBody st) (start N vs) H { nx := fun _ H' => Q .non H', rt := Q }) : FnOk P w K mg base CX0 (k + 1) f fd ps sp := by
  obtain ⟨oc, od, dV, kV, doc, pm, an, cdv, ct, osl, rfl, lk, hcd⟩ := F.ex
  exact fn_of lk hcd S len fun A outer s H vs Q E hr hsp => ⟨_, PSs.nox (cB (X := (cxOf CX0 P w K mg base N qual (defScope st) f cdv A outer s H E).nox)), hbody cdv A outer s H vs Q E hr hsp⟩
theorem FunA.okD (F : FunA K x qual st f fd) (S : FnScope N ps (defScope st)) (len : ∀ ds, pre ds → ds.length = ps.length)
    (hbody : ∀ (cdv : Value) (A : Around) (outer : List Env) (s : Shared) (E : XK) (ds : List D) (vs : List V) (B H : Hp), Room k (A.deeper (envOfC qual (defScope st) s.heap.objs.size f cdv)) → Ex B H → RpL K B ds vs → pre ds →
      RB (cxOf CX0 P w K mg base N qual (defScope st) f cdv A outer s H E).nox (defBody st) (start N vs) H { nx := fun _ H' => Ret K B H (post ds) .non H', rt := Ret K B H (post ds) }) : FnOk P w K mg base CX0 (k + 1) f fd ps (spD K pre post) :=
  F.okB S (spD_len len) fun cdv A outer s H vs Q E hr ⟨ds, B, hx, r, hp, kk⟩ =>
    rb_imp (hbody cdv A outer s E ds vs B H hr hx r hp) (fun _ H' ⟨d, B', s, q, z⟩ => kk _ d B' H' s q z) (fun v H' ⟨d, B', s, q, z⟩ => kk v d B' H' s q z) (fun _ _ z => z) (fun _ _ z => z)
theorem FunA.okGD (F : FunA K x qual st f fd) (S : FnScope N ps (defScope st)) (len : ∀ ds, pre ds → ds.length = ps.length)
    (hbody : ∀ (cdv : Value) (A : Around) (outer : List Env) (s : Shared) (E : XK) (ds : List D) (vs : List V) (B H : Hp), Room k (A.deeper (envOfC qual (defScope st) s.heap.objs.size f cdv)) → A.guards = some [] → Ex B H → RpL K B ds vs → pre ds →
      RB (cxOf CX0 P w K mg base N qual (defScope st) f cdv A outer s H E).nox (defBody st) (start N vs) H { nx := fun _ H' => Ret K B H (post ds) .non H', rt := Ret K B H (post ds) }) : FnG P w K mg base CX0 (k + 1) f fd ps (spD K pre post) := by
  obtain ⟨oc, od, dV, kV, doc, pm, an, cdv, ct, osl, rfl, lk, hcd⟩ := F.ex
  refine fnG_of lk hcd S (spD_len len) fun A outer s H vs Q E hr hG ⟨ds, B, hx, r, hp, kk⟩ => ?_
  have h := rb_imp (hbody cdv A outer s E ds vs B H hr hG hx r hp) (D' := { nx := fun _ H' => Q .non H', rt := Q }) (fun _ H' ⟨d, B', s, q, z⟩ => kk _ d B' H' s q z) (fun v H' ⟨d, B', s, q, z⟩ => kk v d B' H' s q z) (fun _ _ z => z) (fun _ _ z => z)
  exact RB.of (PSs.nox (cB (X := (cxOf CX0 P w K mg base N qual (defScope st) f cdv A outer s H E).nox))) h
/-- all parameters are given, the defaults stand in a tuple -/
theorem binds_tup {T : Addr} {o : Obj} {its : Array Value} {n : Nat} {kV doc pm cdv ct : Value} {an : Option Addr} (lT : K.lookup T = some o) (oT : o.data = .seq its n)
    (h : ∀ us : List Value, us.length = ps.length → ∃ kk : Option (Array Value) → Sem (List (Str × Value)), bindArgs (PySem.W.fnOf x qual (defArgs st) (defBody st) (defScope st) (.ref T) kV doc pm an cdv ct) ⟨us, []⟩ = seqItems? (.ref T) >>= kk ∧ kk (some its) = pure (ps.zip us)) :
    Binds K (PySem.W.fnOf x qual (defArgs st) (defBody st) (defScope st) (.ref T) kV doc pm an cdv ct) ps [] := fun s us hk hl => by
  rw [List.append_nil] at hl ⊢
  obtain ⟨kk, e1, e2⟩ := h us hl
  rintro M
  exact BindsTo.of_looks (fun M => by rw [e1]; exact looks_items hk lT oT (PySem.W.Looks.of_pure e2)) M
end
end Fx
set_option Elab.async false
set_option linter.all false
set_option maxRecDepth 100000
set_option maxHeartbeats 2000000
/-! Fx, part 12: the pot opened and closed, stores, methods of built-in kinds, new instances, keywords, order of data. -/
namespace Fx
open PySem L2
open PySem.Spec PyProof.Rows

section
variable {X : Cx} {σ : L2.St} {B B' H H' : Hp} {x m : Str} {p pos apos px tpos : Pos} {e o a b : Expr} {es : List Expr} {P : D → Prop} {PL : List D → Prop} {sts rest : List Stmt} {D : Ends}

/-! ### the pot -/
theorem rb_open {q : Addr} (h : H q = some (potO q)) (k : ∀ i j : Int, 0 ≤ i → 0 ≤ j → j < 2 ^ 40 → RB X sts σ (upd H q (.lst [.int i, .int j])) D) : RB X sts σ H D := fun pins s I => by
  obtain ⟨⟨i, j, t, u, n, e, hi, hj, hj2⟩, _, _⟩ := I.hok q _ h
  have mu : Mut (H q) := by rw [h]; exact True.intro
  exact k i j hi hj hj2 pins s (I.write (x := q) (e := q) (o := .lst [.int i, .int j]) (t' := s.toks) (h' := s.heap) mu (.inl rfl) (fun _ _ _ z => z) ⟨_, e⟩ ⟨(by decide : 2 ≤ sizeLine), [.int i t, .int j u], n, .cons ⟨t, rfl⟩ (.cons ⟨u, rfl⟩ .nil), e⟩)
/-- the two numbers at q are a pot -/
def PotAt (q : Addr) (H : Hp) : Prop := ∃ i j : Int, H q = some (.lst [.int i, .int j]) ∧ 0 ≤ i ∧ 0 ≤ j ∧ j < 2 ^ 40
theorem inv_pot {pins : List (Addr × Obj)} {s : Shared} {q : Addr} (I : Inv X pins σ H s) (h : PotAt q H) : Inv X pins σ (upd H q (potO q)) s := by
  obtain ⟨i, j, h, hi, hj, hj2⟩ := h
  obtain ⟨its, n, r, e, _⟩ := I.lst h
  obtain ⟨u1, u2, rfl, ⟨t, rfl⟩, ⟨u, rfl⟩⟩ := r.two
  have mu : Mut (H q) := by rw [h]; exact True.intro
  exact I.write (x := q) (e := q) (o := potO q) (t' := s.toks) (h' := s.heap) mu (.inl rfl) (fun _ _ _ z => z) ⟨_, e⟩
    ⟨⟨i, j, t, u, n, e, hi, hj, hj2⟩, ⟨_, e⟩, fun h1 h2 ⟨i, j, t, u, n, e, q⟩ k => ⟨i, j, t, u, n, k _ e, q⟩⟩
/-- what is handed back stands beside a pot -/
theorem rb_close (h : RB X sts σ H { D with rt := fun v H' => ∃ q, PotAt q H' ∧ D.rt v (upd H' q (potO q)) }) : RB X sts σ H D := fun pins s I =>
  thn (h pins s I) fun f s' z => by
    cases f with
    | next => exact z
    | brk => exact z
    | cont => exact z
    | ret u =>
      obtain ⟨v, σ', H', I', r, q, hp, d⟩ := z
      exact ⟨v, σ', _, inv_pot I' hp, r, d⟩
theorem Step.recast {q : Addr} {u : HO} (s : Step B H B' H') (h0 : H q = none) (h1 : B' q = none) : Step B H (upd B' q u) (upd H' q u) :=
  ⟨s.b.trans (Ex.new h1), fun a w ha => by
    by_cases z : a = q
    · subst z; rw [upd_same] at ha ⊢; exact ha
    · rw [upd_ne z] at ha ⊢; exact s.bh a w ha, s.h.put h0, fun a z1 z2 => by
    have z : a ≠ q := fun z => z2 (z ▸ h0)
    rw [upd_ne z]; exact s.nw a z1 z2⟩
/-- closed again: all stands as before -/
theorem Ex.again {q : Addr} {u w : HO} (h : Ex (upd H q w) H') (h0 : H q = some u) : Ex H (upd H' q u) := fun a z ha => by
  by_cases ea : a = q
  · subst ea; rw [upd_same, ← h0]; exact ha
  · rw [upd_ne ea]; exact h a z (by rw [upd_ne ea]; exact ha)

/-! ### stores into a list of one's own -/
/-- xs[i] = e -/
theorem rb_store {i j : Nat} {q : Addr} {vs : List V} {c : Int} (hn : σ[i]? = some (some (.ref q))) (h1 : B q = none) (h2 : H q = some (.lst vs)) (he : EN X e σ B P) (ha : EN X a σ B (Eq (.int c))) (hj : ixN vs.length c = some j) (hx : Ex B H)
    (k : ∀ v d B' H', Step B H B' H' → B' q = none → P d → Rp X.K B' d v → RB X rest σ (upd H' q (.lst (vs.set j v))) D)
    (hN : X.N[i]? = some x := by rfl) (hv : Vis X.env.scope x := by first | exact Or.inl rfl | exact Or.inr (Or.inl rfl) | exact Or.inr (Or.inr rfl)) (hd : (x == ("__debug__" : Str)) = false := by decide) (hcd : (x == ("__classdict__" : Str)) = false := by decide)
    (hs : swapsWithSole [.Subscript (.Name x px) a tpos] e pos.line X.env = pure false := by rfl) (hw : swappedStores [.Subscript (.Name x px) a tpos] e X.env = pure none := by rfl)
    (h3 : (assignEach [.Subscript (.Name x px) a tpos] X.env).map (·.2) = [assign (.Subscript (.Name x px) a tpos) X.env] := by rfl)
    (h4 : ∀ v, assign (.Subscript (.Name x px) a tpos) X.env v = (do
      let ov ← holding [v] (eval (.Name x px) X.env)
      let iv ← holding [v, ov] (eval a X.env)
      standAt tpos
      holding [v, ov, iv] (setItem ov iv v)
      release [v, ov, iv] []) := by intro _; rfl) : RB X (.Assign [.Subscript (.Name x px) a tpos] e pos :: rest) σ H D :=
  rb_cons (RS.of (ps_asg cE (pg_sub (pe_var hN hv hd hcd) cE set_list h4) hs hw h3) (he B H (Ex.refl B) hx _ fun v d B1 H1 s1 pd rd => ⟨.ref q, hn, ha B1 H1 s1.b s1.bh _ fun u d2 B2 H2 s2 q2 r2 => by
    subst q2
    cases Rp.int.mp r2
    have kp := (s1.trans s2).keep h1 h2
    refine ⟨q, vs, c, j, rfl, rfl, kp.2, hj, ?_⟩
    exact k v d B2 H2 (s1.trans s2) kp.1 pd (rd.mono s2.b)⟩))

/-! ### a built-in kind's method, by data -/
/-- the data's kind -/
def Kd : Fx.D → String → Prop
  | .str _, t => t = "str" | .lst _, t => t = "list" | _, _ => False
theorem tyV_of {K : PySem.W.Frag} {d : Fx.D} {t : String} {v : V} (h : Kd d t) (r : Rp K H d v) : tyV K t v H := by
  cases d with
  | str z => cases h; cases Rp.str.mp r; exact rfl
  | lst ds => cases h; obtain ⟨q, xs, rfl, h1, _⟩ := Rp.lst.mp r; exact .inl ⟨rfl, xs, SqL.of h1⟩
  | tup ds => exact h.elim
  | non => exact h.elim
  | bl _ => exact h.elim
  | int _ => exact h.elim
  | ref _ => exact h.elim
  | ty _ => exact h.elim
  | obj _ _ => exact h.elim
  | dic _ => exact h.elim
  | pot => exact h.elim
  | scr _ => exact h.elim
/-- a method of a built-in kind on the data x, ds gives data with P -/
def MD (X : Cx) (id : String) (x : Fx.D) (ds : List Fx.D) (P : Fx.D → Prop) : Prop :=
  ∃ r, MtR X id r ∧ ∀ v vs B H (Q : VK), Ex B H → Rp X.K B x v → RpL X.K B ds vs → (∀ z d B' H', Step B H B' H' → P d → Rp X.K B' d z → Q z H') → r v vs H Q
theorem en_bm {T id : String} {dx : Fx.D} {name : Str} (hk : Kd dx T) (pa : PlainAttrs T) (slot : Slot T name id) (hty : typeOf (.builtin id) = pure (.type "method_descriptor")) (ho : EN X o σ B (Eq dx)) (ha : EA X (e :: es) σ B PL) (md : ∀ ds, PL ds → MD X id dx ds P)
    (hbase : attributeBase o name X.env (eval o X.env) = eval o X.env := by rfl)
    (hfew : ((backTo pos (starEach (e :: es) X.env)).all (fun x => !x.1) && (backToKw pos (keywordEach [] X.env)).all (fun x => x.1.isSome)
      && decide ((e :: es).length + ([] : List Keyword).length + (if ([] : List Keyword).isEmpty then 0 else 1) < 30)) = true := by rfl)
    (hline : (apos.endLine == pos.line) = true := by rfl) (hs : starEach (e :: es) X.env = (false, eval e X.env) :: starEach es X.env := by rfl) (hplain : (backTo pos (starEach es X.env)).any (·.1) = false := by rfl) :
    EN X (.Call (.Attribute o name apos) (e :: es) [] pos) σ B P := fun B1 H e1 e2 Q k => by
  let R : V → List V → Hp → VK → Prop := fun v vs H Q => ∃ ds B, PL ds ∧ Ex B H ∧ Rp X.K B dx v ∧ RpL X.K B ds vs ∧ ∀ z d B' H', Step B H B' H' → P d → Rp X.K B' d z → Q z H'
  have hR : MtR X id R := fun pins s σ H v vs vv us Q I hv hvs ⟨ds, B, pl, e, r1, r2, k⟩ => by
    obtain ⟨r, hr, q⟩ := md ds pl
    exact hr pins s σ H v vs vv us Q I hv hvs (q v vs B H Q e r1 r2 k)
  exact RE.of (pe_bm pa slot hty hR cE cA hbase hfew hline hs hplain) (ho B1 H e1 e2 _ fun v d B2 H2 s q r => by
    subst q
    refine ⟨tyV_of hk (r.mono s.bh), ha B2 H2 (e1.trans s.b) s.bh _ fun vs ds B3 H3 s' pl r' => ?_⟩
    exact ⟨ds, B3, pl, s'.bh, r.mono s'.b, r', fun z d B' H' s'' pd rd => k z d B' H' ((s.trans s').trans s'') pd rd⟩)
theorem md_join {z : Str} {ws : List Str} (h : (ws.map (·.length)).sum + ws.length * z.length ≤ 16777216) : MD X "str.join" (.str z) [.lst (Fx.D.strs ws)] (Eq (.str (Txt.join z ws))) :=
  ⟨_, mt_join, fun v vs B H Q hx rv rvs k => by
    obtain ⟨u, rfl, ru⟩ := rpl1 rvs
    obtain ⟨q, xs, rfl, h1, h2⟩ := Rp.lst.mp ru
    cases h2.toStrs
    exact ⟨z, q, ws, Rp.str.mp rv, rfl, .inl (SqL.of (hx _ _ h1)), h, k _ _ B H (Step.refl hx) rfl (Rp.str.mpr rfl)⟩⟩
theorem md_joinT {z : Str} {ws : List Str} (h : (ws.map (·.length)).sum + ws.length * z.length ≤ 16777216) : MD X "str.join" (.str z) [.tup (Fx.D.strs ws)] (Eq (.str (Txt.join z ws))) :=
  ⟨_, mt_join, fun v vs B H Q hx rv rvs k => by
    obtain ⟨u, rfl, ru⟩ := rpl1 rvs
    obtain ⟨q, xs, rfl, h1, h2⟩ := Rp.tup.mp ru
    cases h2.toStrs
    exact ⟨z, q, ws, Rp.str.mp rv, rfl, .inr (hx.t h1), h, k _ _ B H (Step.refl hx) rfl (Rp.str.mpr rfl)⟩⟩
theorem md_sindex {z w : Str} {i : Nat} {l : List Nat} (h : Builtin.Str.occurrences z w 0 z.length 1 = i :: l) : MD X "str.index" (.str z) [.str w] (Eq (.int (i : Nat))) :=
  ⟨_, mt_sindex, fun v vs B H Q hx rv rvs k => by
    obtain ⟨u, rfl, ru⟩ := rpl1 rvs
    exact ⟨z, w, i, l, Rp.str.mp rv, by rw [Rp.str.mp ru], h, k _ _ B H (Step.refl hx) rfl (Rp.int.mpr rfl)⟩⟩
/-- xs.count(b) of bools -/
def eqb (b : Bool) (v : Value) : Bool := match v with
  | .bool c => c == b
  | _ => false
theorem eqb_count {b : Bool} : ∀ {bs : List Bool} {us : List Value}, Vals (bs.map V.bl) us → us.countP (eqb b) = bs.count b
  | [], _, .nil => rfl
  | c :: bs, _ :: us, .cons r t => by
    cases r
    have ih := eqb_count (b := b) t
    rw [List.countP_cons, List.count_cons, ih]; rfl
theorem eqb_at {b : Bool} {A : Around} {s : Shared} : ∀ {bs : List Bool} {us : List Value}, Vals (bs.map V.bl) us → ∀ y ∈ us, SeqAt.EqAt A s y (.bool b) (eqb b y)
  | [], _, .nil => fun y hy => by cases hy
  | c :: bs, _ :: us, .cons r t => fun y hy => by
    cases r
    rcases List.mem_cons.mp hy with e | e
    · rw [e]; exact SeqAt.EqAt.bool_bool c b
    · exact eqb_at t y e
theorem md_countB {bs : List Bool} {b : Bool} : MD X "list.count" (.lst (Fx.D.bls bs)) [.bl b] (Eq (.int (bs.count b : Nat))) :=
  ⟨fun x xs H Q => ∃ q, x = .ref q ∧ xs = [.bl b] ∧ SqL X.K H q (bs.map V.bl) ∧ Q (.int (bs.count b : Nat)) H, fun pins s σ H x xs v us Q I rx rxs h => by
    obtain ⟨p, rfl, rfl, hs, q⟩ := h
    cases rx
    obtain ⟨u, rfl, ru⟩ := rxs.one
    cases ru
    obtain ⟨its, rv, ⟨⟨cls, dd, data, sl⟩, n, ho, hc, hdn, hd⟩, hlen⟩ := I.list hs
    simp only at hc hd
    subst hc hd
    refine call_meets PySem.F.slot_list_count ⟨_, ho, rfl⟩ PySem.F.entry_list_count (PySem.F.args_list_count_2 _ _)
      (SeqAt.list_countAt p its.toArray n dd sl (.bool b) (eqb b)) ⟨ho, fun y hy => eqb_at rv y (by simpa using hy), ?_⟩
    have ec : its.toArray.toList.countP (eqb b) = bs.count b := eqb_count rv
    refine ⟨.int (bs.count b : Nat), H, I.tok _, ⟨s.toks, ?_⟩, q⟩
    show Value.int ((its.toArray.toList.countP (eqb b) : Nat) : Int) s.toks = Value.int ((bs.count b : Nat) : Int) s.toks
    rw [ec], fun v vs B H Q hx rv rvs k => by
    obtain ⟨u, rfl, ru⟩ := rpl1 rvs
    obtain ⟨q, xs, rfl, h1, h2⟩ := Rp.lst.mp rv
    cases RpL.bls.mp h2
    exact ⟨q, rfl, by rw [Rp.bl.mp ru], SqL.of (hx _ _ h1), k _ _ B H (Step.refl hx) rfl (Rp.int.mpr rfl)⟩⟩
/-- xs.insert(i, e), xs of one's own -/
theorem rb_insert {i : Nat} {q : Addr} {vs : List V} {c : Int} (hq : σ[i]? = some (some (.ref q))) (h1 : B q = none) (h2 : H q = some (.lst vs)) (hz : vs.length < sizeLine) (ha : EN X a σ B (Eq (.int c))) (he : EN X e σ B P) (hc : 0 ≤ c) (hc2 : c < 2 ^ 63) (hx : Ex B H)
    (k : ∀ v d B' H', Step B H B' H' → B' q = none → P d → Rp X.K B' d v → RB X rest σ (upd H' q (.lst (vs.take c.toNat ++ [v] ++ vs.drop c.toNat))) D)
    (hs : swapsWith (.Call (.Attribute (.Name x px) "insert" apos) [a, e] [] p) none pos.line X.env = pure false := by rfl)
    (hst1 : starEach [a, e] X.env = (false, eval a X.env) :: starEach [e] X.env := by rfl) (hst2 : starEach [e] X.env = (false, eval e X.env) :: starEach [] X.env := by rfl)
    (hpe : ∀ r, MtR X "list.insert" r → PE X (.Call (.Attribute (.Name x px) "insert" apos) [a, e] [] p) (tBM X.K "list" r (tVar i) (RA X [a, e])) := by exact fun r hr => pe_bm PySem.F.plainAttrs_list PySem.F.slot_list_insert PySem.F.type_list_insert hr (pv _) cA) :
    RB X (.Expr (.Call (.Attribute (.Name x px) "insert" apos) [a, e] [] p) pos :: rest) σ H D :=
  rb_cons (RS.of (ps_expr (hpe _ mt_insert) hs)
    ⟨.ref q, hq, .inl ⟨rfl, _, SqL.of h2⟩, ea_consN ha (ea_consN he ea_nil hst2) hst1 B H (Ex.refl B) hx _ fun ws ds B' H' s pd r => by
      obtain ⟨d1, ds1, rfl, q1, d2, ds2, rfl, q2, rfl⟩ := pd
      subst q1
      obtain ⟨v1, v2, rfl, r1, r2⟩ := rpl2 r
      cases Rp.int.mp r1
      have kp := s.keep h1 h2
      exact ⟨q, vs, c, v2, rfl, rfl, kp.2, hz, hc, hc2, k v2 d2 B' H' s kp.1 q2 r2⟩⟩)

/-! ### is not False; < of data -/
theorem od_notB {a b : Bool} : OD X (compareOp .IsNot) (.bl a) (.bl b) (Eq (.bl (!decide (a = b)))) :=
  ⟨_, op_notBl, fun v u B H Q e rx ry k => ⟨a, b, Rp.bl.mp rx, Rp.bl.mp ry, k _ _ B H (Step.refl e) rfl (Rp.bl.mpr rfl)⟩⟩
theorem od_isB {a b : Bool} : OD X (compareOp .Is) (.bl a) (.bl b) (Eq (.bl (decide (a = b)))) :=
  ⟨_, op_isBl, fun v u B H Q e rx ry k => ⟨a, b, Rp.bl.mp rx, Rp.bl.mp ry, k _ _ B H (Step.refl e) rfl (Rp.bl.mpr rfl)⟩⟩
theorem od_ltD {x y : Fx.D} (px : x.plain = true) (py : y.plain = true) (ha : PySem.W.alike x.py y.py = true) (hn : x.py ≠ .none) (hu : X.A.units + min x.py.depth y.py.depth < cLine) : OD X (compareOp .Lt) x y (Eq (.bl (PySem.W.dataLt x.py y.py))) :=
  ⟨fun v u H Q => Dp X.K H v x.py ∧ Dp X.K H u y.py ∧ Q (.bl (PySem.W.dataLt x.py y.py)) H, fun pins s σ H v u vv uu Q I rv ru ⟨d1, d2, q⟩ => by
    obtain ⟨as, r1⟩ := Dp.reads I x.py v vv d1 rv
    obtain ⟨bs, r2⟩ := Dp.reads I y.py u uu d2 ru
    exact PySem.W.lt_data r1 r2 ha hn hu ⟨.bl _, H, I, rfl, q⟩, fun v u B H Q e rx ry k => ⟨(rx.mono e).dp px, (ry.mono e).dp py, k _ _ B H (Step.refl e) rfl (Rp.bl.mpr rfl)⟩⟩

/-! ### a method with one keyword -/
theorem en_methK {kk : Nat} {f C : Addr} {fd : FuncData} {ps : List Str} {pre : List Fx.D → Prop} {post : List Fx.D → Fx.D → Prop} {fs : List (Str × Fx.D)} {kn : Str} {kpos : Pos} {d0 : Fx.D} {pl : Sem Bool} (c : Cls X.K C) (hm : Meth X.K C m f) (F : FnOk X.prog X.w X.K X.mg X.base CX0 kk f fd ps (spD X.K pre post)) (hr : Room kk X.A)
    (hb : ∀ (s : Shared) (u w : Value), X.K.In s.heap → BindsTo s fd ⟨[u], [(kn, w)]⟩ (ps.zip [u, w])) (ho : EN X o σ B (Eq (.obj C fs))) (hl : fs.lookup m = none)
    (he : EN X e σ B (Eq d0)) (hpre : pre [.obj C fs, d0]) (hall : (backToKw pos (keywordEach [⟨some kn, e, kpos⟩] X.env)).all (·.1.isSome) = true := by rfl) (hks : (backToKw pos (keywordEach [⟨some kn, e, kpos⟩] X.env)).filterMap (·.1) = [kn] := by rfl)
    (hpl : ((backTo pos (starEach [] X.env)).any (·.1) || (backToKw pos (keywordEach [⟨some kn, e, kpos⟩] X.env)).any (·.1.isNone)) = false := by rfl)
    (ht : eval (.Call (.Attribute o m apos) [] [⟨some kn, e, kpos⟩] pos) X.env = (do
      let ov ← eval o X.env
      standAt apos.atName
      let (f, first) ← holding [ov] (getMethod ov m pl)
      callWith pos f first (backTo pos (starEach [] X.env)) (backToKw pos (keywordEach [⟨some kn, e, kpos⟩] X.env))) := by rfl) :
    EN X (.Call (.Attribute o m apos) [] [⟨some kn, e, kpos⟩] pos) σ B (post [.obj C fs, d0]) := fun B1 H e1 e2 Q k pins s I => by
  refine PySem.W.methodCall_KW (pl := pl) (thn (ho B1 H e1 e2 (fun v H' => ∃ B', Step B1 H B' H' ∧ Rp X.K B' (.obj C fs) v) (fun v d' B' H' s q r => ⟨B', s, q ▸ r⟩) pins s I) fun u s1 ⟨v, H1, I1, rv, B2, st, ro⟩ => ?_) ht
  have ro' := ro
  obtain ⟨q, dx, gs, rfl, h1, h2⟩ := Rp.obj.mp ro'
  cases rv
  refine getmeth_ok I1 (st.bh _ _ h1) c hm (h2.none hl) ?_
  refine PySem.W.callWith_KW0 I1.kIn hm.kp hall (thn ((pk_cons (nm := some kn) (kpos := kpos) cE pk_nil).run pos pins s1 σ H1 (fun vs H' => ∃ w B', vs = [w] ∧ Step B2 H1 B' H' ∧ Rp X.K B' d0 w) I1 (he B2 H1 (e1.trans st.b) st.bh _ fun w d B' H' s' q' r' => ⟨w, B', rfl, s', q' ▸ r'⟩)) fun us s2 ⟨vs, H2, I2, rvs, w, B3, evs, st2, rw_⟩ => ⟨I2.kIn, ?_⟩) hpl
  subst evs
  obtain ⟨uw, rfl, ruw⟩ := rvs.one
  rw [hks]
  have rel : Vals [V.ref q, w] [Value.ref q, uw] := .cons rfl (.cons ruw .nil)
  have want : spD X.K pre post [V.ref q, w] H2 Q E0 := ⟨[.obj C fs, d0], B3, st2.bh, RpL.cons (ro.mono st2.b) (RpL.cons rw_ RpL.nil), hpre, fun v d B' H' s' pd rd => k v d B' H' ((st.trans st2).trans s') pd rd⟩
  show wpAny _ _ (call (.ref f) [.ref q] [(kn, uw)]) _ _ _
  refine wpAny_call (codeAny_mono (F.run X.A X.stack s2 H2 ⟨[.ref q], [(kn, uw)]⟩ [.ref q, uw] [.ref q, w] Q E0 hr I2.env0 (hb s2 _ _ I2.kIn) rel want) fun res s' hq => ?_)
  match res, hq with
  | .error e, hq => exact hq.elim
  | .ok (.ret u), hq => exact I2.after hq
  | .ok .next, hq => exact hq.elim
  | .ok .brk, hq => exact hq.elim
  | .ok .cont, hq => exact hq.elim

/-! ### new instances -/
/-- __init__ gives the attributes fs -/
def spMake (K : PySem.W.Frag) (C : Addr) (pre : List Fx.D → Prop) (fs : List Fx.D → List (Str × Fx.D)) : Sp := fun vs H Q _ =>
  ∃ x dx us ds B, vs = .ref x :: us ∧ H x = some (.ins C dx []) ∧ Ex B H ∧ B x = none ∧ RpL K B ds us ∧ pre ds ∧
    ∀ gs B' H', Ex B B' → Ex B' H' → (∀ a o, a ≠ x → H a = some o → H' a = some o) → (∀ a, B a = none → H a ≠ none → B' a = none) → H' x = some (.ins C dx gs) → RpF K B' (fs ds) gs → Q .non H'
theorem en_make {kk : Nat} {f C : Addr} {fd : FuncData} {ps : List Str} {pre : List Fx.D → Prop} {fs : List Fx.D → List (Str × Fx.D)} (M : Mk X.K C f) (F : FnOk X.prog X.w X.K X.mg X.base CX0 kk f fd ps (spMake X.K C pre fs)) (hr : Room (kk + 1) X.A) (hm : X.mg x = some (.ref C)) (hb : Binds X.K fd ps [])
    (ha : EA X (e :: es) σ B PL) (hp : ∀ ds, PL ds → pre ds) (hg : Gl X x := by rfl) (hdb : (x == ("__debug__" : Str)) = false := by decide) (he : starEach (e :: es) X.env = (false, eval e X.env) :: starEach es X.env := by rfl) (hpl : (backTo pos (starEach es X.env)).any (·.1) = false := by rfl) :
    EN X (.Call (.Name x p) (e :: es) [] pos) σ B (fun d => ∃ ds, PL ds ∧ d = .obj C (fs ds)) := fun B1 H e1 e2 Q k =>
  RE.of (pe_make (E := E0) M F hr hg hm hb .nil pass0 cA hdb he hpl) (ha B1 H e1 e2 _ fun vs ds B2 H2 s pl r => by
    rw [List.append_nil]
    intro y dx ny ndx hne
    have nB : B2 y = none := s.bh.back ny
    refine ⟨y, dx, vs, ds, B2, rfl, upd_same, (s.bh.put (s.bh.back ndx)).put nB, nB, r, hp ds pl, fun gs B3 H3 x1 x2 x3 x4 x5 x6 => ⟨rfl, ?_⟩⟩
    · have h3 : B3 y = none := x4 y nB (by rw [upd_same]; exact fun z => nomatch z)
      have ex : Ex H2 H3 := fun a u ha => by
        have n1 : a ≠ y := ne_of_none ha ny
        have n2 : a ≠ dx := ne_of_none ha ndx
        exact x3 a u n1 (by rw [upd_ne n1, upd_ne n2]; exact ha)
      have st : Step B2 H2 B3 H3 := ⟨x1, x2, ex, fun a h1 h2 => by
        have n1 : a ≠ y := fun z => h2 (z ▸ ny)
        have n2 : a ≠ dx := fun z => h2 (z ▸ ndx)
        exact x4 a h1 (by rw [upd_ne n1, upd_ne n2]; exact h2)⟩
      exact k _ _ _ H3 (s.trans (st.share ny h3 x5)) ⟨ds, pl, rfl⟩ (Rp.obj.mpr ⟨y, dx, gs, rfl, upd_same, RpF.mono (Ex.new h3) x6⟩))
/-- self.f = e in __init__ -/
theorem rb_fld {i : Nat} {y C dx : Addr} {gs : List (Str × V)} {f : Str} {opos : Pos} (hn : σ[i]? = some (some (.ref y))) (h1 : B y = none) (h2 : H y = some (.ins C dx gs)) (c : Cls X.K C) (nf : NoAttr X.K C f) (hl : gs.length < 1000) (he : EN X e σ B P) (hx : Ex B H)
    (k : ∀ v d B' H', Step B H B' H' → B' y = none → P d → Rp X.K B' d v → RB X rest σ (upd H' y (.ins C dx (putF f v gs))) D)
    (hN : X.N[i]? = some x := by rfl) (hv : Vis X.env.scope x := by first | exact Or.inl rfl | exact Or.inr (Or.inl rfl) | exact Or.inr (Or.inr rfl)) (hd : (x == ("__debug__" : Str)) = false := by decide) (hcd : (x == ("__classdict__" : Str)) = false := by decide)
    (hs : swapsWith e (some (.Attribute (.Name x px) f opos)) pos.line X.env = pure false := by rfl) : RB X (.Assign [.Attribute (.Name x px) f opos] e pos :: rest) σ H D :=
  rb_cons (RS.of (ps_fld (pe_var hN hv hd hcd) cE hs) (he B H (Ex.refl B) hx _ fun v d B1 H1 s1 pd rd => ⟨.ref y, hn, by
    have kp := s1.keep h1 h2
    exact ⟨y, C, dx, gs, rfl, kp.2, c, nf, hl, k v d B1 H1 s1 kp.1 pd rd⟩⟩))
end
end Fx
set_option Elab.async false
set_option linter.all false
set_option maxRecDepth 100000
set_option maxHeartbeats 2000000
/-! Fx, part 13: calls of defs for which guards don't matter, two targets with a new list, texts of three parts. -/
namespace Fx
open PySem L2
open PySem.Spec PyProof.Rows

section
variable {X : Cx} {σ : L2.St} {B B' H H' : Hp} {x y m : Str} {p pos apos px py tpos : Pos} {e o a b c : Expr} {es : List Expr} {P Pa Pb : Fx.D → Prop} {PL : List Fx.D → Prop} {sts rest : List Stmt} {D : Ends}
variable {kk : Nat} {f C : Addr} {fd : FuncData} {ps : List Str} {pre : List Fx.D → Prop} {post : List Fx.D → Fx.D → Prop}
/-- f(e, ..), guards or not -/
theorem en_callO (F : FnOk X.prog X.w X.K X.mg X.base CX0 kk f fd ps (spD X.K pre post)) (hr : Room kk X.A) (hm : X.mg x = some (.ref f)) (hk : PySem.W.keepIn X.K (.ref f) = true) (hb : Binds X.K fd ps [])
    (ha : EA X (e :: es) σ B PL) (hp : ∀ ds, PL ds → pre ds) (hg : Gl X x := by rfl) (hdb : (x == ("__debug__" : Str)) = false := by decide) (he : starEach (e :: es) X.env = (false, eval e X.env) :: starEach es X.env := by rfl) (hpl : (backTo pos (starEach es X.env)).any (·.1) = false := by rfl) :
    EN X (.Call (.Name x p) (e :: es) [] pos) σ B (fun d => ∃ ds, PL ds ∧ post ds d) := fun B1 H e1 e2 Q k =>
  RE.of (pe_call (E := E0) F hr hg hm hk hb .nil pass0 cA hdb he hpl) (ha B1 H e1 e2 _ fun vs ds B' H' s pl r => by
    rw [List.append_nil]
    exact ⟨ds, B', s.bh, r, hp ds pl, fun v d B'' H'' s' q z => k v d B'' H'' (s.trans s') ⟨ds, pl, q⟩ z⟩)
theorem ed_callO {ds : List Fx.D} (F : FnOk X.prog X.w X.K X.mg X.base CX0 kk f fd ps (spD X.K pre post)) (hr : Room kk X.A) (hm : X.mg x = some (.ref f)) (hk : PySem.W.keepIn X.K (.ref f) = true) (hb : Binds X.K fd ps [])
    (ha : EA X (e :: es) σ B (Eq ds)) (hp : pre ds) (hg : Gl X x := by rfl) (hdb : (x == ("__debug__" : Str)) = false := by decide) (he : starEach (e :: es) X.env = (false, eval e X.env) :: starEach es X.env := by rfl) (hpl : (backTo pos (starEach es X.env)).any (·.1) = false := by rfl) :
    EN X (.Call (.Name x p) (e :: es) [] pos) σ B (post ds) := (en_callO F hr hm hk hb ha (fun _ q => q ▸ hp) hg hdb he hpl).imp fun d ⟨ds', q, z⟩ => q ▸ z

/-- if without else -/
theorem rb_if0 {t : Bool} (hc : ET X c σ B (Eq t)) (hx : Ex B H) (h1 : t = true → ∀ B' H', Step B H B' H' → RB X sts σ H' { D with nx := fun σ' H' => RB X rest σ' H' D }) (h2 : t = false → ∀ B' H', Step B H B' H' → RB X rest σ H' D) : RB X (.If c sts [] pos :: rest) σ H D :=
  rb_if hc hx h1 fun q B' H' s => rb_nil (h2 q B' H' s)
/-- .. that is not so -/
theorem rb_ifF (hc : ET X c σ B (Eq false)) (hx : Ex B H) (h2 : ∀ B' H', Step B H B' H' → RB X rest σ H' D) : RB X (.If c sts [] pos :: rest) σ H D :=
  rb_if0 hc hx (fun q => nomatch q) fun _ => h2
theorem rb_if0N {Pt : Bool → Prop} (hc : ET X c σ B Pt) (hx : Ex B H) (h1 : Pt true → ∀ B' H', Step B H B' H' → RB X sts σ H' { D with nx := fun σ' H' => RB X rest σ' H' D }) (h2 : Pt false → ∀ B' H', Step B H B' H' → RB X rest σ H' D) : RB X (.If c sts [] pos :: rest) σ H D :=
  rb_ifN hc hx h1 fun q B' H' s => rb_nil (h2 q B' H' s)
/-- a, b = (a new list), e: any names -/
theorem rb_asg2F {i j : Nat} {pt pt2 : Pos} {kt k2 : Nat} (hc : X.calm = true) (hN : X.N.Nodup) (ha : EF X a σ B PL) (hb : EN X b σ B Pb) (hx : Ex B H)
    (k : ∀ q ds vs w d B' H', Step B H B' H' → H q = none → B' q = none → H' q = some (.lst vs) → PL ds → RpL X.K B' ds vs → Pb d → Rp X.K B' d w → RB X rest ((σ.set i (some (.ref q))).set j (some w)) H' D)
    (hi : X.N[i]? = some x := by rfl) (hj : X.N[j]? = some y := by rfl) (hlx : Loc X.env.scope x := by first | exact Or.inl rfl | exact Or.inr rfl) (hly : Loc X.env.scope y := by first | exact Or.inl rfl | exact Or.inr rfl)
    (hfx : X.fn x = true ∨ X.env.scope.names.lookup x = some .local := by first | exact .inl rfl | exact .inr rfl) (hfy : X.fn y = true ∨ X.env.scope.names.lookup y = some .local := by first | exact .inl rfl | exact .inr rfl)
    (hs : swapsWithSole [.Tuple [.Name x px, .Name y py] kt pt] (.Tuple [a, b] k2 pt2) pos.line X.env = pure false := by rfl) (hw : swappedStores [.Tuple [.Name x px, .Name y py] kt pt] (.Tuple [a, b] k2 pt2) X.env = pure none := by rfl)
    (h1 : (assignEach [.Tuple [.Name x px, .Name y py] kt pt] X.env).map (·.2) = [assign (.Tuple [.Name x px, .Name y py] kt pt) X.env] := by rfl)
    (hs1 : starEach [a, b] X.env = (false, eval a X.env) :: starEach [b] X.env := by rfl) (hs2 : starEach [b] X.env = (false, eval b X.env) :: starEach [] X.env := by rfl)
    (hn : (assignEach [.Name x px, .Name y py] X.env).length = 2 := by rfl) (hst : (assignEach [.Name x px, .Name y py] X.env).findIdx? (·.1) = none := by rfl)
    (hq1 : (assignEach [.Name x px, .Name y py] X.env).map (·.2) = assign (.Name x px) X.env :: (assignEach [.Name y py] X.env).map (·.2) := by rfl) (hq2 : (assignEach [.Name y py] X.env).map (·.2) = assign (.Name y py) X.env :: (assignEach [] X.env).map (·.2) := by rfl) :
    RB X (.Assign [.Tuple [.Name x px, .Name y py] kt pt] (.Tuple [a, b] k2 pt2) pos :: rest) σ H D :=
  rb_cons (RS.of (ps_asg (pe_tup (pa_cons cE (pa_cons cE pa_nil hs2) hs1)) (pg_tup (n := 2) hc (pgs_cons (pg_name hN hi hlx hfx) (pgs_cons (pg_name hN hj hly hfy) pgs_nil hq2) hq1) hn hst) hs hw h1)
    (ha B H (Ex.refl B) hx _ fun q ds vs B1 H1 s1 n0 n1 h2 pl r => hb B1 H1 s1.b s1.bh _ fun w d B2 H2 s2 pd rd => by
      refine ⟨by show 2 ≤ sizeLine; decide, fun t ht => ⟨t, _, rfl, SqT.of upd_same, rfl, .ref q, [w], rfl, w, [], rfl, rfl, ?_⟩⟩
      have k1 := s2.keep n1 h2
      have st := (s1.trans s2).trans (Step.own (o := .tup [.ref q, w]) s2.bh ht)
      exact k q ds vs w d B2 _ st n0 k1.1 (by rw [upd_ne (ne_of_none k1.2 ht)]; exact k1.2) pl (r.mono s2.b) pd rd))
/-- a, b = e, f in two plain locals, each by itself -/
theorem rb_par2 {i j : Nat} {pt pt2 : Pos} {kt k2 : Nat} (hc : X.calm = true) (hN : X.N.Nodup) (ha : EN X a σ B Pa) (hb : EN X b σ B Pb) (hx : Ex B H) (hij : i ≠ j)
    (k : ∀ v d w d' B' H', Step B H B' H' → Pa d → Rp X.K B' d v → Pb d' → Rp X.K B' d' w → RB X rest ((σ.set i (some v)).set j (some w)) H' D)
    (hw : swappedStores [.Tuple [.Name x px, .Name y py] kt pt] (.Tuple [a, b] k2 pt2) X.env = pure (some [x, y]) := by rfl)
    (hi : X.N[i]? = some x := by rfl) (hj : X.N[j]? = some y := by rfl) (hlx : X.env.scope.names.lookup x = some .local := by rfl) (hly : X.env.scope.names.lookup y = some .local := by rfl) (hs : swapsWithSole [.Tuple [.Name x px, .Name y py] kt pt] (.Tuple [a, b] k2 pt2) pos.line X.env = pure false := by rfl)
    (hs1 : starEach [a, b] X.env = (false, eval a X.env) :: starEach [b] X.env := by rfl) (hs2 : starEach [b] X.env = (false, eval b X.env) :: starEach [] X.env := by rfl) :
    RB X (.Assign [.Tuple [.Name x px, .Name y py] kt pt] (.Tuple [a, b] k2 pt2) pos :: rest) σ H D :=
  rb_par hc hN (ea_consN ha (ea_consN hb ea_nil hs2) hs1) hx hij (fun vs ds B' H' s ⟨d, _, e1, pd, d', _, e2, pd', e3⟩ r => by
    subst e3; subst e2; subst e1
    obtain ⟨v, w, rfl, r1, r2⟩ := rpl2 r
    exact ⟨v, w, rfl, k v d w d' B' H' s pd r1 pd' r2⟩) hw hi hj hlx hly hs
/-- xs[0] = e, whoever else may know the list -/
theorem rb_storeI {i j : Nat} {q : Addr} {vs : List V} {c0 : Int} {jc : Nat} {cpos : Pos} (hn : σ[i]? = some (some (.ref q))) (h2 : H q = some (.lst vs)) (he : EN X e σ B P) (hj : ixN vs.length c0 = some j) (hx : Ex B H)
    (k : ∀ v d B' H', Step B H B' H' → P d → Rp X.K B' d v → RB X rest σ (upd H' q (.lst (vs.set j v))) D)
    (hN : X.N[i]? = some x := by rfl) (hv : Vis X.env.scope x := by first | exact Or.inl rfl | exact Or.inr (Or.inl rfl) | exact Or.inr (Or.inr rfl)) (hd : (x == ("__debug__" : Str)) = false := by decide) (hcd : (x == ("__classdict__" : Str)) = false := by decide)
    (hs : swapsWithSole [.Subscript (.Name x px) (.Constant (.int c0) jc cpos) tpos] e pos.line X.env = pure false := by rfl) (hw : swappedStores [.Subscript (.Name x px) (.Constant (.int c0) jc cpos) tpos] e X.env = pure none := by rfl)
    (h3 : (assignEach [.Subscript (.Name x px) (.Constant (.int c0) jc cpos) tpos] X.env).map (·.2) = [assign (.Subscript (.Name x px) (.Constant (.int c0) jc cpos) tpos) X.env] := by rfl)
    (h4 : ∀ v, assign (.Subscript (.Name x px) (.Constant (.int c0) jc cpos) tpos) X.env v = (do
      let ov ← holding [v] (eval (.Name x px) X.env)
      let iv ← holding [v, ov] (eval (.Constant (.int c0) jc cpos) X.env)
      standAt tpos
      holding [v, ov, iv] (setItem ov iv v)
      release [v, ov, iv] []) := by intro _; rfl) : RB X (.Assign [.Subscript (.Name x px) (.Constant (.int c0) jc cpos) tpos] e pos :: rest) σ H D :=
  rb_cons (RS.of (ps_asg cE (pg_sub (pe_var hN hv hd hcd) pe_int set_list h4) hs hw h3) (he B H (Ex.refl B) hx _ fun v d B1 H1 s1 pd rd => ⟨.ref q, hn, q, vs, c0, j, rfl, rfl, s1.h _ _ h2, hj, k v d B1 H1 s1 pd rd⟩))
/-- xs[0], y = a pair -/
theorem rb_storeP {i j l : Nat} {q : Addr} {vs : List V} {c0 : Int} {jc kt : Nat} {cpos pt : Pos} {d1 d2 : Fx.D} (hc : X.calm = true) (hNd : X.N.Nodup) (hn : σ[i]? = some (some (.ref q))) (h2 : H q = some (.lst vs)) (he : EN X e σ B (Eq (.tup [d1, d2]))) (hj : ixN vs.length c0 = some j) (hx : Ex B H)
    (k : ∀ v w B' H', Step B H B' H' → Rp X.K B' d1 v → Rp X.K B' d2 w → RB X rest (σ.set l (some w)) (upd H' q (.lst (vs.set j v))) D)
    (hN : X.N[i]? = some x := by rfl) (hN2 : X.N[l]? = some y := by rfl) (hv : Vis X.env.scope x := by first | exact Or.inl rfl | exact Or.inr (Or.inl rfl) | exact Or.inr (Or.inr rfl)) (hd : (x == ("__debug__" : Str)) = false := by decide) (hcd : (x == ("__classdict__" : Str)) = false := by decide)
    (hl2 : Loc X.env.scope y := by first | exact Or.inl rfl | exact Or.inr rfl) (hf2 : X.fn y = true ∨ X.env.scope.names.lookup y = some .local := by first | exact .inl rfl | exact .inr rfl)
    (hs : swapsWithSole [.Tuple [.Subscript (.Name x px) (.Constant (.int c0) jc cpos) tpos, .Name y py] kt pt] e pos.line X.env = pure false := by rfl) (hw : swappedStores [.Tuple [.Subscript (.Name x px) (.Constant (.int c0) jc cpos) tpos, .Name y py] kt pt] e X.env = pure none := by rfl)
    (h3 : (assignEach [.Tuple [.Subscript (.Name x px) (.Constant (.int c0) jc cpos) tpos, .Name y py] kt pt] X.env).map (·.2) = [assign (.Tuple [.Subscript (.Name x px) (.Constant (.int c0) jc cpos) tpos, .Name y py] kt pt) X.env] := by rfl)
    (hq0 : (assignEach [.Subscript (.Name x px) (.Constant (.int c0) jc cpos) tpos, .Name y py] X.env).length = 2 := by rfl) (hst : (assignEach [.Subscript (.Name x px) (.Constant (.int c0) jc cpos) tpos, .Name y py] X.env).findIdx? (·.1) = none := by rfl)
    (hq1 : (assignEach [.Subscript (.Name x px) (.Constant (.int c0) jc cpos) tpos, .Name y py] X.env).map (·.2) = assign (.Subscript (.Name x px) (.Constant (.int c0) jc cpos) tpos) X.env :: (assignEach [.Name y py] X.env).map (·.2) := by rfl) (hq2 : (assignEach [.Name y py] X.env).map (·.2) = assign (.Name y py) X.env :: (assignEach [] X.env).map (·.2) := by rfl)
    (h4 : ∀ v, assign (.Subscript (.Name x px) (.Constant (.int c0) jc cpos) tpos) X.env v = (do
      let ov ← holding [v] (eval (.Name x px) X.env)
      let iv ← holding [v, ov] (eval (.Constant (.int c0) jc cpos) X.env)
      standAt tpos
      holding [v, ov, iv] (setItem ov iv v)
      release [v, ov, iv] []) := by intro _; rfl) : RB X (.Assign [.Tuple [.Subscript (.Name x px) (.Constant (.int c0) jc cpos) tpos, .Name y py] kt pt] e pos :: rest) σ H D :=
  rb_cons (RS.of (ps_asg cE (pg_tup (n := 2) hc (pgs_cons (pg_sub (pe_var hN hv hd hcd) pe_int set_list h4) (pgs_cons (pg_name hNd hN2 hl2 hf2) pgs_nil hq2) hq1) hq0 hst) hs hw h3) (he B H (Ex.refl B) hx _ fun v d B1 H1 s1 pd rd => by
    subst pd
    obtain ⟨t, xs, rfl, h5, h6⟩ := Rp.tup.mp rd
    obtain ⟨v1, v2, rfl, r1, r2⟩ := rpl2 h6
    exact ⟨t, _, rfl, s1.bh.t h5, rfl, v1, [v2], rfl, .ref q, hn, q, vs, c0, j, rfl, rfl, s1.h _ _ h2, hj, v2, [], rfl, rfl, k v1 v2 B1 H1 s1 r1 r2⟩))
/-- xs.append(e), whoever may read it meanwhile -/
theorem rb_appendX {i : Nat} {q : Addr} {vs : List V} (hq : σ[i]? = some (some (.ref q))) (h2 : H q = some (.lst vs)) (hz : vs.length < sizeLine) (he : EN X e σ B P) (hx : Ex B H)
    (k : ∀ v d B' H', Step B H B' H' → P d → Rp X.K B' d v → RB X rest σ (upd H' q (.lst (vs ++ [v]))) D)
    (hs : swapsWith (.Call (.Attribute (.Name x px) "append" apos) [e] [] p) none pos.line X.env = pure false := by rfl)
    (hpe : PE X (.Call (.Attribute (.Name x px) "append" apos) [e] [] p) (tBM X.K "list" rAppend (tVar i) (tCons (RE X e) tNil)) := by exact pe_bm PySem.F.plainAttrs_list PySem.F.slot_list_append PySem.F.type_list_append mt_append (pv _) (pa_cons cE pa_nil)) :
    RB X (.Expr (.Call (.Attribute (.Name x px) "append" apos) [e] [] p) pos :: rest) σ H D :=
  rb_cons (RS.of (ps_expr hpe hs)
    ⟨.ref q, hq, .inl ⟨rfl, _, SqL.of h2⟩, he B H (Ex.refl B) hx _ fun v d B' H' s pd r =>
      ⟨q, vs, v, rfl, rfl, s.h _ _ h2, hz, k v d B' H' s pd r⟩⟩)
/-- a list of one's own, new since H, is shared now -/
theorem Step.fresh {H1 : Hp} {q : Addr} {u : HO} (x1 : Ex B H1) (x2 : Ex H H1) (h0 : H q = none) (h1 : B q = none) (h2 : H1 q = some u) : Step B H (upd B q u) H1 :=
  Step.share ⟨Ex.refl B, x1, x2, fun _ h _ => h⟩ h0 h1 h2
/-- behind a write to an object that H does not have -/
theorem Ex.wr {H0 H1 : Hp} {q : Addr} {u : HO} (x : Ex H0 H1) (h : H0 q = none) : Ex H0 (upd H1 q u) := x.put h
/-- a text of three parts -/
theorem en_js3 {u v w : Str} (ha : EN X a σ B (Eq (.str u))) (hb : EN X b σ B (Eq (.str v))) (hc : EN X c σ B (Eq (.str w))) (hz : u.length + v.length + w.length ≤ sizeLine) : EN X (.JoinedStr [a, b, c] pos) σ B (Eq (.str (Str.empty ++ u ++ v ++ w))) := fun B1 H e1 e2 Q k =>
  RE.of (pe_joined (.cons cE (.cons cE (.cons cE .nil)))) (ha B1 H e1 e2 _ fun x1 d1 B2 H2 s1 q1 r1 => by
    subst q1
    refine ⟨u, Rp.str.mp r1, by simp only [Str.length_append]; have : Str.empty.length = 0 := rfl; omega, hb B2 H2 (e1.trans s1.b) s1.bh _ fun x2 d2 B3 H3 s2 q2 r2 => ?_⟩
    subst q2
    refine ⟨v, Rp.str.mp r2, by simp only [Str.length_append]; have : Str.empty.length = 0 := rfl; omega, hc B3 H3 ((e1.trans s1.b).trans s2.b) s2.bh _ fun x3 d3 B4 H4 s3 q3 r3 => ?_⟩
    subst q3
    refine ⟨w, Rp.str.mp r3, by simp only [Str.length_append]; have : Str.empty.length = 0 := rfl; omega, ?_⟩
    exact k _ _ B4 H4 ((s1.trans s2).trans s3) rfl (Rp.str.mpr rfl))
/-- some item of a list -/
theorem ix_lstM {ds : List Fx.D} {i : Int} (h0 : 0 ≤ i) (h1 : i < ds.length) : IxD X (.lst ds) (.int i) (fun d => d ∈ ds) := by
  have h2 : i.toNat < ds.length := by omega
  have e : L2.atI ds i = some ds[i.toNat] := by
    have e1 : ixN ds.length i = some i.toNat := by
      unfold ixN
      rw [if_pos h0]
      simp [h1]
    unfold L2.atI
    rw [e1]
    exact List.getElem?_eq_getElem h2
  obtain ⟨r, h, q⟩ := ix_lst (X := X) e
  exact ⟨r, h, fun v u B H Q x1 rx ry k => q v u B H Q x1 rx ry fun z d pd rd => k z d (pd ▸ List.getElem_mem h2) rd⟩
theorem Step.grow {H1 : Hp} (s : Step B H B' H') (x1 : Ex B' H1) (x2 : Ex H H1) : Step B H B' H1 := ⟨s.b, x1, x2, s.nw⟩
theorem OD.imp {g : Value → Value → Sem Value} {u v : Fx.D} {P' : Fx.D → Prop} (o : OD X g u v P) (q : ∀ d, P d → P' d) : OD X g u v P' := by
  obtain ⟨r, h, k⟩ := o
  exact ⟨r, h, fun v u B H Q e rx ry kk => k v u B H Q e rx ry fun z d B' H' s pd rd => kk z d B' H' s (q d pd) rd⟩
theorem IxD.imp {u v : Fx.D} {P' : Fx.D → Prop} (o : IxD X u v P) (q : ∀ d, P d → P' d) : IxD X u v P' := by
  obtain ⟨r, h, k⟩ := o
  exact ⟨r, h, fun v u B H Q e rx ry kk => k v u B H Q e rx ry fun z d pd rd => kk z d (q d pd) rd⟩
theorem ix_textM {z : Str} {i : Int} {Pc : Nat → Prop} (hz : z.length ≤ sizeLine) (h0 : 0 ≤ i) (h1 : i < z.length) (hp : ∀ c ∈ z.cps.toList, Pc c) : IxD X (.str z) (.int i) (fun d => ∃ c, d = .str ⟨#[c]⟩ ∧ Pc c) := by
  have h2 : i.toNat < z.cps.toList.length := by rw [Array.length_toList]; have : z.cps.size = z.length := rfl; omega
  have e : L2.atI z.cps.toList i = some z.cps.toList[i.toNat] := by
    have e1 : ixN z.cps.toList.length i = some i.toNat := by
      unfold ixN
      rw [if_pos h0, if_pos (by omega)]
    unfold L2.atI
    rw [e1]
    exact List.getElem?_eq_getElem h2
  exact IxD.imp (ix_text hz e) fun d q => ⟨_, q.symm, hp _ (List.getElem_mem h2)⟩
theorem all_of {α β : Type} {ds : List α} {es : List β} {Pe : β → Prop} (hl : es.length = ds.length) (h : ∀ (i : Nat) (d : α), ds[i]? = some d → ∃ e, es[i]? = some e ∧ Pe e) : ∀ e ∈ es, Pe e := fun e he => by
  obtain ⟨i, hi, q⟩ := List.mem_iff_getElem.mp he
  obtain ⟨e', h1, h2⟩ := h i _ (List.getElem?_eq_getElem (by omega))
  rw [List.getElem?_eq_getElem hi] at h1
  cases h1
  rw [← q]; exact h2
theorem choose_map {α β : Type} {g : α → β} {Q : α → Prop} : ∀ {es : List β}, (∀ e ∈ es, ∃ c, e = g c ∧ Q c) → ∃ cs : List α, es = cs.map g ∧ ∀ c ∈ cs, Q c
  | [], _ => ⟨[], rfl, fun _ h => nomatch h⟩
  | e :: es, h => by
    obtain ⟨c, rfl, hc⟩ := h e List.mem_cons_self
    obtain ⟨cs, rfl, hcs⟩ := choose_map (es := es) fun e he => h e (List.mem_cons_of_mem _ he)
    exact ⟨c :: cs, rfl, fun d hd => by
      rcases List.mem_cons.mp hd with q | q
      · rw [q]; exact hc
      · exact hcs d q⟩
theorem kit_self {K : PySem.W.Frag} {t : Value} : PySem.W.kitOne K t t = some true := by
  unfold PySem.W.kitOne
  rw [if_pos (beq_self_eq_true t)]
theorem kit_any1 {K : PySem.W.Frag} {t : Value} {r : List Value} : PySem.W.kitAny K t (t :: r) = some true := by
  unfold PySem.W.kitAny
  rw [kit_self]
theorem ixN_nat {n i : Nat} (h : i < n) : ixN n (i : Int) = some i := by
  unfold ixN
  rw [if_pos (by omega)]
  simp [h]
theorem atI_nat {α : Type} {ds : List α} {i : Nat} {d : α} (h : ds[i]? = some d) : L2.atI ds (i : Int) = some d := by
  have h2 : i < ds.length := (List.getElem?_eq_some_iff.mp h).1
  unfold L2.atI
  rw [ixN_nat h2]
  exact h
end
theorem bt_len : bootBuiltins ("len" : Str) = some (.builtin "len") := by decide +kernel
theorem bt_all : bootBuiltins ("all" : Str) = some (.builtin "all") := by decide +kernel
theorem bt_any : bootBuiltins ("any" : Str) = some (.builtin "any") := by decide +kernel
theorem bt_isinstance : bootBuiltins ("isinstance" : Str) = some (.builtin "isinstance") := by decide +kernel
theorem bt_abs : bootBuiltins ("abs" : Str) = some (.builtin "abs") := by decide +kernel
theorem bt_max : bootBuiltins ("max" : Str) = some (.builtin "max") := by decide +kernel
theorem bt_min : bootBuiltins ("min" : Str) = some (.builtin "min") := by decide +kernel
theorem bt_divmod : bootBuiltins ("divmod" : Str) = some (.builtin "divmod") := by decide +kernel
theorem bt_repr : bootBuiltins ("repr" : Str) = some (.builtin "repr") := by decide +kernel
theorem bt_sorted : bootBuiltins ("sorted" : Str) = some (.builtin "sorted") := by decide +kernel
theorem bt_int : bootBuiltins ("int" : Str) = some (.type "int") := by decide +kernel
theorem bt_bool : bootBuiltins ("bool" : Str) = some (.type "bool") := by decide +kernel
theorem bt_str : bootBuiltins ("str" : Str) = some (.type "str") := by decide +kernel
theorem bt_list : bootBuiltins ("list" : Str) = some (.type "list") := by decide +kernel
theorem bt_tuple : bootBuiltins ("tuple" : Str) = some (.type "tuple") := by decide +kernel
theorem bt_range : bootBuiltins ("range" : Str) = some (.type "range") := by decide +kernel
theorem bt_enumerate : bootBuiltins ("enumerate" : Str) = some (.type "enumerate") := by decide +kernel
theorem bt_zip : bootBuiltins ("zip" : Str) = some (.type "zip") := by decide +kernel
theorem bt_set : bootBuiltins ("set" : Str) = some (.type "set") := by decide +kernel
theorem bt_dict : bootBuiltins ("dict" : Str) = some (.type "dict") := by decide +kernel
theorem cd_isiS {X : Cx} {z : Str} : CD X (.builtin "isinstance") [.str z, .ty "str"] (Eq (.bl true)) := cd_isi (t := .type "str") rfl kit_self
theorem cd_isiO1 {X : Cx} {C : Addr} {fs : List (Str × Fx.D)} (h : OwnTy X.K C) : CD X (.builtin "isinstance") [.obj C fs, .ref C] (Eq (.bl true)) := cd_isiO (t := .ref C) ⟨rfl, h⟩ kit_self
end Fx
set_option Elab.async false
set_option linter.all false
set_option maxRecDepth 100000
set_option maxHeartbeats 2000000
/-! Fx, part 14: -i, two targets whose second is a new list, bases without an object. -/
namespace Fx
open PySem L2
open PySem.Spec PyProof.Rows
section
variable {X : Cx} {σ : L2.St} {B B' H H' : Hp} {x y m : Str} {p pos apos px py tpos : Pos} {e o a b c : Expr} {es : List Expr} {P Pa Pb : Fx.D → Prop} {PL : List Fx.D → Prop} {sts rest : List Stmt} {D : Ends}
theorem en_neg {i : Int} (h : EN X a σ B (Eq (.int i))) : EN X (.UnaryOp .USub a pos) σ B (Eq (.int (-i))) := fun B1 H e1 e2 Q k =>
  RE.of (pe_un un_neg cE) (h B1 H e1 e2 _ fun v d B' H' s q r => by
    subst q
    exact ⟨i, Rp.int.mp r, k _ _ B' H' s rfl (Rp.int.mpr rfl)⟩)
/-- a, b = e, (a new list): any names -/
theorem rb_asg2L {i j : Nat} {pt pt2 : Pos} {kt k2 : Nat} (hc : X.calm = true) (hN : X.N.Nodup) (ha : EN X a σ B Pa) (hb : EF X b σ B PL) (hx : Ex B H)
    (k : ∀ q ds vs w d B' H', Step B H B' H' → H q = none → B' q = none → H' q = some (.lst vs) → PL ds → RpL X.K B' ds vs → Pa d → Rp X.K B' d w → RB X rest ((σ.set i (some w)).set j (some (.ref q))) H' D)
    (hi : X.N[i]? = some x := by rfl) (hj : X.N[j]? = some y := by rfl) (hlx : Loc X.env.scope x := by first | exact Or.inl rfl | exact Or.inr rfl) (hly : Loc X.env.scope y := by first | exact Or.inl rfl | exact Or.inr rfl)
    (hfx : X.fn x = true ∨ X.env.scope.names.lookup x = some .local := by first | exact .inl rfl | exact .inr rfl) (hfy : X.fn y = true ∨ X.env.scope.names.lookup y = some .local := by first | exact .inl rfl | exact .inr rfl)
    (hs : swapsWithSole [.Tuple [.Name x px, .Name y py] kt pt] (.Tuple [a, b] k2 pt2) pos.line X.env = pure false := by rfl) (hw : swappedStores [.Tuple [.Name x px, .Name y py] kt pt] (.Tuple [a, b] k2 pt2) X.env = pure none := by rfl)
    (h1 : (assignEach [.Tuple [.Name x px, .Name y py] kt pt] X.env).map (·.2) = [assign (.Tuple [.Name x px, .Name y py] kt pt) X.env] := by rfl)
    (hs1 : starEach [a, b] X.env = (false, eval a X.env) :: starEach [b] X.env := by rfl) (hs2 : starEach [b] X.env = (false, eval b X.env) :: starEach [] X.env := by rfl)
    (hn : (assignEach [.Name x px, .Name y py] X.env).length = 2 := by rfl) (hst : (assignEach [.Name x px, .Name y py] X.env).findIdx? (·.1) = none := by rfl)
    (hq1 : (assignEach [.Name x px, .Name y py] X.env).map (·.2) = assign (.Name x px) X.env :: (assignEach [.Name y py] X.env).map (·.2) := by rfl) (hq2 : (assignEach [.Name y py] X.env).map (·.2) = assign (.Name y py) X.env :: (assignEach [] X.env).map (·.2) := by rfl) :
    RB X (.Assign [.Tuple [.Name x px, .Name y py] kt pt] (.Tuple [a, b] k2 pt2) pos :: rest) σ H D :=
  rb_cons (RS.of (ps_asg (pe_tup (pa_cons cE (pa_cons cE pa_nil hs2) hs1)) (pg_tup (n := 2) hc (pgs_cons (pg_name hN hi hlx hfx) (pgs_cons (pg_name hN hj hly hfy) pgs_nil hq2) hq1) hn hst) hs hw h1)
    (ha B H (Ex.refl B) hx _ fun w d B1 H1 s1 pd rd => hb B1 H1 s1.b s1.bh _ fun q ds vs B2 H2 s2 n0 n1 h2 pl r => by
      refine ⟨by show 2 ≤ sizeLine; decide, fun t ht => ⟨t, _, rfl, SqT.of upd_same, rfl, w, [.ref q], rfl, .ref q, [], rfl, rfl, ?_⟩⟩
      have st := (s1.trans s2).trans (Step.own (o := .tup [w, .ref q]) s2.bh ht)
      exact k q ds vs w d B2 _ st (s1.h.back n0) n1 (by rw [upd_ne (ne_of_none h2 ht)]; exact h2) pl r pd (rd.mono s2.b)))
/-- the base without q -/
def off (B : Hp) (q : Addr) : Hp := fun a => if a = q then none else B a
theorem off_ne {B : Hp} {q a : Addr} (h : a ≠ q) : off B q a = B a := if_neg h
theorem off_self {B : Hp} {q : Addr} : off B q q = none := if_pos rfl
theorem Step.off {q : Addr} {u : HO} (s : Step (upd B q u) H B' H') (h : B q = none) : Step B H (off B' q) H' :=
  ⟨fun a o ha => by
    have n : a ≠ q := ne_of_none ha h
    rw [off_ne n]; exact s.b a o (by rw [upd_ne n]; exact ha), fun a o ha => by
    by_cases n : a = q
    · subst n; rw [off_self] at ha; cases ha
    · rw [off_ne n] at ha; exact s.bh a o ha, s.h, fun a h1 h2 => by
    by_cases n : a = q
    · subst n; exact off_self
    · rw [off_ne n]; exact s.nw a (by rw [upd_ne n]; exact h1) h2⟩
/-- a list of texts does not stand at q, where other things stand -/
theorem Rp.off {K : PySem.W.Frag} {q : Addr} {ws : List Str} {vs : List V} {v : V} (r : Rp K B (.lst (Fx.D.strs ws)) v) (h : B q = some (.lst vs)) (hne : vs ≠ ws.map V.str) : Rp K (off B q) (.lst (Fx.D.strs ws)) v := by
  obtain ⟨a, xs, rfl, h1, h2⟩ := Rp.lst.mp r
  cases h2.toStrs
  have n : a ≠ q := fun z => hne (by subst z; rw [h1] at h; cases h; rfl)
  exact Rp.lst.mpr ⟨a, _, rfl, by rw [off_ne n]; exact h1, RpL.strs.mpr rfl⟩
end
end Fx
set_option Elab.async false
set_option linter.all false
set_option maxRecDepth 100000
set_option maxHeartbeats 3200000
/-! Fx, part 20: new instances with defaults, with a keyword; empty dicts. -/
namespace Fx
open PySem L2
open PySem.Spec PyProof.Rows
section
variable {K : PySem.W.Frag} {f : Addr} {fd : FuncData} {ps : List Str} {x qual : Str} {st : Stmt}
/-- the last parameters are left to their defaults -/
theorem binds_dfl {T : Addr} {o : Obj} {its : Array Value} {n : Nat} {kV doc pm cdv ct : Value} {an : Option Addr} {ds : List Value} (lT : K.lookup T = some o) (oT : o.data = .seq its n)
    (h : ∀ us : List Value, (us ++ ds).length = ps.length → ∃ kk : Option (Array Value) → Sem (List (Str × Value)), bindArgs (PySem.W.fnOf x qual (defArgs st) (defBody st) (defScope st) (.ref T) kV doc pm an cdv ct) ⟨us, []⟩ = seqItems? (.ref T) >>= kk ∧ kk (some its) = pure (ps.zip (us ++ ds))) :
    Binds K (PySem.W.fnOf x qual (defArgs st) (defBody st) (defScope st) (.ref T) kV doc pm an cdv ct) ps ds := fun s us hk hl => by
  obtain ⟨kk, e1, e2⟩ := h us hl
  exact BindsTo.of_looks (fun M => by rw [e1]; exact looks_items hk lT oT (PySem.W.Looks.of_pure e2))
/-- one value by position, one by its name -/
theorem binds_kw1 {T : Addr} {o : Obj} {its : Array Value} {n : Nat} {kV doc pm cdv ct : Value} {an : Option Addr} {kn : Str} (lT : K.lookup T = some o) (oT : o.data = .seq its n)
    (h : ∀ u w : Value, ∃ kk : Option (Array Value) → Sem (List (Str × Value)), bindArgs (PySem.W.fnOf x qual (defArgs st) (defBody st) (defScope st) (.ref T) kV doc pm an cdv ct) ⟨[u], [(kn, w)]⟩ = seqItems? (.ref T) >>= kk ∧ kk (some its) = pure (ps.zip [u, w])) :
    KBn K (PySem.W.fnOf x qual (defArgs st) (defBody st) (defScope st) (.ref T) kV doc pm an cdv ct) ps 1 [kn] (fun us ws => us ++ ws) (fun vs zs => vs ++ zs) :=
  ⟨fun s us ws hk l1 l2 => by
    match us, ws, l1, l2 with
    | [u], [w], _, _ =>
      obtain ⟨kk, e1, e2⟩ := h u w
      exact BindsTo.of_looks fun M => by
        show PySem.W.Looks M s.heap (bindArgs _ ⟨[u], [(kn, w)]⟩) _
        rw [e1]; exact looks_items hk lT oT (PySem.W.Looks.of_pure e2), fun r1 r2 => r1.append r2⟩
end
section
variable {X : Cx} {σ : L2.St} {B : Hp} {x kn : Str} {p pos kpos : Pos} {e : Expr} {PL : List Fx.D → Prop}
variable {kk : Nat} {f C : Addr} {fd : FuncData} {ps : List Str} {pre : List Fx.D → Prop} {fs : List Fx.D → List (Str × Fx.D)}
/-- from __init__'s promise to the new instance -/
theorem made_of {B1 H B2 H2 : Hp} {ds : List Fx.D} {vs : List V} {Q : VK} (s : Step B1 H B2 H2) (r : RpL X.K B2 ds vs) (hp : pre ds) (k : ∀ v B' H', Step B1 H B' H' → Rp X.K B' (.obj C (fs ds)) v → Q v H') (y dx : Addr) (ny : H2 y = none) (ndx : H2 dx = none) (hne : dx ≠ y) :
    spMake X.K C pre fs (.ref y :: vs) (upd (upd H2 dx (.own y)) y (.ins C dx [])) (fun v H3 => v = .non ∧ Q (.ref y) H3) E0 := by
  have nB : B2 y = none := s.bh.back ny
  refine ⟨y, dx, vs, ds, B2, rfl, upd_same, (s.bh.put (s.bh.back ndx)).put nB, nB, r, hp, fun gs B3 H3 x1 x2 x3 x4 x5 x6 => ⟨rfl, ?_⟩⟩
  have h3 : B3 y = none := x4 y nB (by rw [upd_same]; exact fun z => nomatch z)
  have out : ∀ {a : Addr} {u : HO}, H2 a = some u → a ≠ y ∧ a ≠ dx := fun h => ⟨ne_of_none h ny, ne_of_none h ndx⟩
  have st : Step B2 H2 B3 H3 := ⟨x1, x2, fun a u ha => x3 a u (out ha).1 (by rw [upd_ne (out ha).1, upd_ne (out ha).2]; exact ha), fun a h1 h2 => by
    have n1 : a ≠ y := fun z => h2 (z ▸ ny)
    have n2 : a ≠ dx := fun z => h2 (z ▸ ndx)
    exact x4 a h1 (by rw [upd_ne n1, upd_ne n2]; exact h2)⟩
  exact k _ _ H3 (s.trans (st.share ny h3 x5)) (Rp.obj.mpr ⟨y, dx, gs, rfl, upd_same, RpF.mono (Ex.new h3) x6⟩)
/-- C() -/
theorem en_make0 {dvs : List V} {dus : List Value} {ds : List Fx.D} (M : Mk X.K C f) (F : FnOk X.prog X.w X.K X.mg X.base CX0 kk f fd ps (spMake X.K C pre fs)) (hr : Room (kk + 1) X.A) (hm : X.mg x = some (.ref C)) (hb : Binds X.K fd ps dus) (hd : Vals dvs dus) (hr2 : ∀ H : Hp, RpL X.K H ds dvs) (hp : pre ds)
    (hg : Gl X x := by rfl) (hdb : (x == ("__debug__" : Str)) = false := by decide) : EN X (.Call (.Name x p) [] [] pos) σ B (Eq (.obj C (fs ds))) := fun B1 H e1 e2 Q k =>
  RE.of (pe_make0 (E := E0) M F hr hg hm hb hd pass0 hdb) fun y dx ny ndx hne => made_of (Step.refl e2) (hr2 B1) hp (fun v B' H' s r => k v _ B' H' s rfl r) y dx ny ndx hne
/-- C(n = e) -/
theorem en_makeK {d : Fx.D} (M : Mk X.K C f) (F : FnOk X.prog X.w X.K X.mg X.base CX0 kk f fd ps (spMake X.K C pre fs)) (hr : Room (kk + 1) X.A) (hm : X.mg x = some (.ref C)) (hb : KBn X.K fd ps 1 [kn] (fun us ws => us ++ ws) (fun vs zs => vs ++ zs)) (he : EN X e σ B (Eq d)) (hp : pre [d])
    (hg : Gl X x := by rfl) (hdb : (x == ("__debug__" : Str)) = false := by decide) (hall : (backToKw pos (keywordEach [⟨some kn, e, kpos⟩] X.env)).all (·.1.isSome) = true := by rfl) (hks : (backToKw pos (keywordEach [⟨some kn, e, kpos⟩] X.env)).filterMap (·.1) = [kn] := by rfl)
    (hpl : ((backTo pos (starEach [] X.env)).any (·.1) || (backToKw pos (keywordEach [⟨some kn, e, kpos⟩] X.env)).any (·.1.isNone)) = false := by rfl) :
    EN X (.Call (.Name x p) [] [⟨some kn, e, kpos⟩] pos) σ B (Eq (.obj C (fs [d]))) := fun B1 H e1 e2 Q k =>
  RE.of (pe_makeK0 (E := E0) M F hr hg hm hb pass0 (pk_cons cE pk_nil) hall hks hdb hpl) (he B1 H e1 e2 _ fun v d' B2 H2 s q r => by
    subst q
    exact ⟨rfl, rfl, fun y dx ny ndx hne => made_of s (RpL.cons r RpL.nil) hp (fun v B' H' s r => k v _ B' H' s rfl r) y dx ny ndx hne⟩)
/-- {} -/
theorem en_dic0 : EN X (.Dict [] [] pos) σ B (Eq (.dic [])) := fun B1 H _ e2 Q k =>
  RE.of pe_dnewK fun p hp => k (.ref p) _ _ _ (Step.alloc (o := .dK []) e2 hp) rfl (by simp only [Rp]; exact ⟨p, [], rfl, .inl upd_same, by simp only [RpK]⟩)
end
end Fx
set_option Elab.async false
set_option linter.all false
set_option maxRecDepth 100000
set_option maxHeartbeats 3200000
/-! Fx, part 19: own __getitem__, constants and static methods of a class. -/
namespace Fx
open PySem L2
open PySem.Spec PyProof.Rows
section
variable {X : Cx} {σ : L2.St} {B B' H H' : Hp} {x y m : Str} {p pos apos px : Pos} {e o a b : Expr} {es : List Expr} {P Pa Pb : Fx.D → Prop} {PL : List Fx.D → Prop}
variable {k : Nat} {f C : Addr} {fd : FuncData} {ps : List Str} {pre : List Fx.D → Prop} {post : List Fx.D → Fx.D → Prop} {fs : List (Str × Fx.D)}
theorem fnIn_at {K : PySem.W.Frag} {oc : Value} {od : Option Addr} {osl : Array (Option Value)} (l : K.lookup f = some ⟨oc, od, .func fd, osl⟩) : PySem.W.fnIn K f = true := by
  unfold PySem.W.fnIn
  rw [l]
theorem fnIn_fun {K : PySem.W.Frag} {n q : Str} {st : Stmt} (F : L2.Fun K n q st f fd) : PySem.W.fnIn K f = true := by
  obtain ⟨oc, od, kV, doc, pm, an, cdv, ct, osl, rfl, lk, hcd⟩ := F.ex
  exact fnIn_at lk
/-- o[a] by the class's own __getitem__ -/
theorem en_ixO {d0 : Fx.D} (S : Spc X.K C "__getitem__" f) (hf : PySem.W.fnIn X.K f = true) (F : FnOk X.prog X.w X.K X.mg X.base CX0 k f fd ps (spD X.K pre post)) (hr : Room (k + 1) X.A) (hb : Binds X.K fd ps []) (ho : EN X o σ B (Eq (.obj C fs))) (ha : EN X a σ B (Eq d0)) (hpre : pre [.obj C fs, d0])
    (hsl : ∀ u v, subscripted a true u v = runValue (.builtin "lifetime.subscript" ⟨[u, v], []⟩) := by intro _ _; rfl) : EN X (.Subscript o a pos) σ B (post [.obj C fs, d0]) := fun B1 H e1 e2 Q kk pins s I => by
  refine Subscript_ (thn (ho B1 H e1 e2 (fun v H' => ∃ B', Step B1 H B' H' ∧ Rp X.K B' (.obj C fs) v) (fun v d' B' H' s q r => ⟨B', s, q ▸ r⟩) pins s I) fun u s1 ⟨v, H1, I1, rv, B2, st, ro⟩ => thn (ha B2 H1 (e1.trans st.b) st.bh (fun v H' => ∃ B', Step B2 H1 B' H' ∧ Rp X.K B' d0 v) (fun v d' B' H' s q r => ⟨B', s, q ▸ r⟩) pins s1 I1) fun u2 s2 ⟨v2, H2, I2, rv2, B3, st2, ra⟩ => ?_)
  have ro3 := ro.mono st2.b
  obtain ⟨q, dx, gs, rfl, h1, h2⟩ := Rp.obj.mp ro3
  cases rv
  obtain ⟨ox, od, J⟩ := ins_at I2 (st2.bh _ _ h1)
  obtain ⟨mm, hF⟩ := I2.fr
  refine PySem.W.sub_K hF I2.ok.mod.kin J S.at_ hf S.fn (wpAny_mono (runD F hr.in1 rfl hb I2 (vs := [.ref q, v2]) (.cons rfl (.cons rv2 .nil)) st2.bh (RpL.cons ro3 (RpL.cons ra RpL.nil)) hpre) (fun r s3 ⟨z, d, B', H', I', r', st3, pd, rz⟩ => ?_) fun _ _ e => e) (hsl _ _)
  exact ⟨z, H', I', r', kk z d B' H' ((st.trans st2).trans st3) pd rz⟩
/-- C.n, a constant of the class -/
theorem en_cval {mc : Value} {v : V} {u : Value} {d : Fx.D} (hm : X.mg x = some (.ref C)) (r : ClX.CRead X.K C mc) (c : ClX.CVal X.K C mc m v u) (rd : Rp X.K (fun _ => none) d v) (hg : Gl X x := by rfl) (hdb : (x == ("__debug__" : Str)) = false := by decide)
    (hb : attributeBase (.Name x px) m X.env (eval (.Name x px) X.env) = eval (.Name x px) X.env := by rfl) : EN X (.Attribute (.Name x px) m pos) σ B (Eq d) := fun B1 H e1 e2 Q k =>
  RE.of (ClX.pe_cval cE hb) (en_cls (pos := px) hm hg hdb B1 H e1 e2 _ fun z d' B' H' s q r' => by
    subst q
    simp only [Rp] at r'
    subst r'
    exact ⟨C, mc, v, u, rfl, r, c, k v d B' H' s rfl (rd.mono fun a o z => by cases z)⟩)
/-- C.m is a static method: its record at q, its def at g -/
structure SMet (K : PySem.W.Frag) (C : Addr) (mc : Value) (m : Str) (q g : Addr) : Prop where
  at_ : PySem.W.findCls K (.ref C) mc m = some (.get (.builtin "staticmethod.__get__") (.ref q) .none (.ref C))
  rc : ∃ rest, PySem.W.recIn K q "staticmethod" = some (.ref g :: rest)
  ty : PySem.W.typeIn K (.ref C) = some mc
  kp : PySem.W.keepIn K (.ref g) = true
/-- what a def with one star parameter promises of its arguments -/
abbrev spSt (K : PySem.W.Frag) (pre : List Fx.D → Prop) (post : List Fx.D → Fx.D → Prop) : Sp := fun vs H Q E => ∃ ws rest, vs = ws ++ rest ∧ ws.length = ([] : List Str).length ∧ rest.length ≤ sizeLine ∧ ∀ p, H p = Option.none → spD K pre post (ws ++ [V.ref p]) (upd H p (.tup rest)) Q E
theorem getsm_ok {pl : Sem Bool} {mc : Value} {q g : Addr} {pins : List (Addr × Obj)} {s : Shared} {Q : Value × List Value → Shared → Prop} {E : Value → Shared → Prop} (I : Inv X pins σ H s) (r : ClX.CRead X.K C mc) (c : SMet X.K C mc m q g) (h : ∀ s1, Inv X pins σ H s1 → Q (.ref g, []) s1) : wpAny (model X.prog X.w) X.A (getMethod (.ref C) m pl) Q E s := by
  obtain ⟨rest, hp⟩ := c.rc
  obtain ⟨mm, hF⟩ := I.fr
  exact PySem.W.method_of_cls hF I.ok.mod.kin r.ga (PySem.W.cls_sm hF I.ok.mod.kin c.ty r.rd c.at_ hp rfl (h _ (I.tok _)))
/-- C.m(e, ..) -/
theorem en_sm {mc : Value} {q g : Addr} {pl : Sem Bool} {ds : List Fx.D} (hm : X.mg x = some (.ref C)) (r : ClX.CRead X.K C mc) (c : SMet X.K C mc m q g) (F : FnR X.prog X.w X.K X.mg X.base CX0 k g (spSt X.K pre post)) (hr : Room k X.A) (ha : EA X (e :: es) σ B (Eq ds)) (hl : ds.length ≤ sizeLine) (hpre : pre [.tup ds])
    (hg : Gl X x := by rfl) (hdb : (x == ("__debug__" : Str)) = false := by decide) (hst : starEach (e :: es) X.env = (false, eval e X.env) :: starEach es X.env := by rfl) (hpl : (backTo pos (starEach es X.env)).any (·.1) = false := by rfl)
    (ht : eval (.Call (.Attribute (.Name x px) m apos) (e :: es) [] pos) X.env = (do
      let ov ← eval (.Name x px) X.env
      standAt apos.atName
      let (f, first) ← holding [ov] (getMethod ov m pl)
      callWith pos f first (backTo pos (starEach (e :: es) X.env)) (backToKw pos (keywordEach [] X.env))) := by rfl) :
    EN X (.Call (.Attribute (.Name x px) m apos) (e :: es) [] pos) σ B (post [.tup ds]) := fun B1 H e1 e2 Q kk pins s I => by
  refine PySem.W.methodCall_KW (pl := pl) (thn (en_cls (σ := σ) (B := B) (pos := px) hm hg hdb B1 H e1 e2 (fun v H' => v = .ref C ∧ ∃ B', Step B1 H B' H') (fun v d' B' H' s q r => ⟨by subst q; simpa only [Rp] using r, B', s⟩) pins s I) fun u s1 ⟨v, H1, I1, rv, ev, B2, st⟩ => ?_) ht
  subst ev
  cases rv
  refine getsm_ok I1 r c fun s2 I2 => ?_
  refine PySem.W.callWith_K (h₀ := X.base) I2.ok.mod.kin c.kp (thn ((cA (X := X) (es := e :: es)).run pos pins s2 σ H1 (fun vs H' => ∃ B', Step B2 H1 B' H' ∧ RpL X.K B' ds vs) I2 (ha B2 H1 (e1.trans st.b) st.bh _ fun vs ds' B' H' s' q r' => ⟨B', s', q ▸ r'⟩)) fun us s3 ⟨vs, H2, I3, rvs, B3, st2, rds⟩ => ⟨I3.kIn, ?_⟩) hst hpl
  refine wpAny_call (L2.run_fnR (E := E0) (us := us) (vs := vs) F hr pass0 I3 rvs ⟨[], vs, rfl, rfl, by rw [← rds.length]; exact hl, fun t ht => ?_⟩)
  exact ⟨[.tup ds], upd B3 t (.tup vs), (Step.alloc (o := .tup vs) st2.bh ht).bh, RpL.cons (Rp.tup.mpr ⟨t, vs, rfl, SqT.of upd_same, rds.mono (Ex.new (st2.bh.back ht))⟩) RpL.nil, hpre, fun v d B' H' s' pd rd => kk v d B' H' (((st.trans st2).trans (Step.alloc (o := .tup vs) st2.bh ht)).trans s') pd rd⟩
/-- C.m() -/
theorem en_sm0 {mc : Value} {q g : Addr} {pl : Sem Bool} (hm : X.mg x = some (.ref C)) (r : ClX.CRead X.K C mc) (c : SMet X.K C mc m q g) (F : FnR X.prog X.w X.K X.mg X.base CX0 k g (spSt X.K pre post)) (hr : Room k X.A) (hpre : pre [.tup []])
    (hg : Gl X x := by rfl) (hdb : (x == ("__debug__" : Str)) = false := by decide)
    (ht : eval (.Call (.Attribute (.Name x px) m apos) [] [] pos) X.env = (do
      let ov ← eval (.Name x px) X.env
      standAt apos.atName
      let (f, first) ← holding [ov] (getMethod ov m pl)
      callWith pos f first (backTo pos (starEach [] X.env)) (backToKw pos (keywordEach [] X.env))) := by rfl) :
    EN X (.Call (.Attribute (.Name x px) m apos) [] [] pos) σ B (post [.tup []]) := fun B1 H e1 e2 Q kk pins s I => by
  refine PySem.W.methodCall_KW (pl := pl) (thn (en_cls (σ := σ) (B := B) (pos := px) hm hg hdb B1 H e1 e2 (fun v H' => v = .ref C ∧ ∃ B', Step B1 H B' H') (fun v d' B' H' s q r => ⟨by subst q; simpa only [Rp] using r, B', s⟩) pins s I) fun u s1 ⟨v, H1, I1, rv, ev, B2, st⟩ => ?_) ht
  subst ev
  cases rv
  refine getsm_ok I1 r c fun s2 I2 => ?_
  refine PySem.W.callWith_K0 (first := []) I2.kIn c.kp ?_
  refine wpAny_call (L2.run_fnR (E := E0) (us := []) (vs := []) F hr pass0 I2 .nil ⟨[], [], rfl, rfl, Nat.zero_le _, fun t ht => ?_⟩)
  exact ⟨[.tup []], upd B2 t (.tup []), (Step.alloc (o := .tup []) st.bh ht).bh, RpL.cons (Rp.tup.mpr ⟨t, [], rfl, SqT.of upd_same, RpL.nil⟩) RpL.nil, hpre, fun v d B' H' s' pd rd => kk v d B' H' ((st.trans (Step.alloc (o := .tup []) st.bh ht)).trans s') pd rd⟩
end
end Fx
set_option Elab.async false
set_option linter.all false
set_option maxRecDepth 100000
set_option maxHeartbeats 3200000
/-! Fx, part 21: a static method with a star parameter, by its body; what may stand behind == of an own object. -/
namespace Fx
open PySem L2
open PySem.Spec PyProof.Rows
section
variable {P : Program} {w : World} {K : PySem.W.Frag} {mg : Str → Option Value} {base : Heap} {k : Nat} {f : Addr} {fd : FuncData} {pv : Str} {pre : List Fx.D → Prop} {post : List Fx.D → Fx.D → Prop}
theorem okStD {x qual : Str} {st : Stmt} {N : List Str} (F : L2.Fun K x qual st f fd) (S : FnScope N [pv] (defScope st)) (hs : ∀ us rest : List Value, us.length = ([] : List Str).length → bindArgs fd ⟨us ++ rest, []⟩ = (newTuple rest >>= fun t => pure (([] : List Str).zip us ++ [(pv, t)])))
    (hbody : ∀ (cdv : Value) (A : Around) (outer : List Env) (s : Shared) (E : XK) (ds : List Fx.D) (vs : List V) (B H : Hp), Room k (A.deeper (envOfC qual (defScope st) s.heap.objs.size f cdv)) → Ex B H → RpL K B ds vs → pre ds →
      RB (cxOf CX0 P w K mg base N qual (defScope st) f cdv A outer s H E).nox (defBody st) (start N vs) H { nx := fun _ H' => Ret K B H (post ds) .non H', rt := Ret K B H (post ds) }) : FnR P w K mg base CX0 (k + 1) f (spSt K pre post) := by
  obtain ⟨oc, od, kV, doc, pm, an, cdv, ct, osl, rfl, lk, hcd⟩ := F.ex
  refine StX.fn_star (ps := []) (sp := spD K pre post) lk hcd S StX.cxUp_none hs fun A outer s H vs Q E hr ⟨ds, B, hx, r, hp, kk⟩ => ?_
  exact ⟨_, cB.nox, rb_imp (hbody cdv A outer s E ds vs B H hr hx r hp) (fun _ H' ⟨d, B', s, q, z⟩ => kk _ d B' H' s q z) (fun v H' ⟨d, B', s, q, z⟩ => kk v d B' H' s q z) (fun _ _ z => z) (fun _ _ z => z)⟩
end
section
variable {X : Cx} {C : Addr}
/-- by its type -/
theorem other_ty {d : Fx.D} {t : Value} (hd : TyD X.K d t) (hs : ∀ pins σ H (s : Shared) (u : V) (uu : Value) (B : Hp), Inv X pins σ H s → Ex B H → Rp X.K B d u → RelV u uu → PySem.W.Looks (model X.prog X.w) s.heap (typeOf uu) t) (h : PySem.W.notFirst X.K C t = true) : Other X C d := fun I hx r ru => ⟨t, hs _ _ _ _ _ _ _ I hx r ru, h⟩
end
end Fx
set_option Elab.async false
set_option linter.all false
set_option maxRecDepth 100000
set_option maxHeartbeats 4000000
/-! Wx, the language: resolved expressions, and when one belongs to a written one. -/
namespace Wx
open PySem L2 Fx PySem.Spec PyProof.Rows
/-! ### resolved expressions -/
/-- the shapes of further forms whose parts are all evaluated, one behind the other -/
inductive Sh where
  /-- the def number i, which calls what it got; the call of what the slot i holds -/
  | told (x : Str) (i : Nat) | act (i : Nat)
  /-- a dict display of constants -/
  | dicC (kvs : List (Key × D))
  /-- list(range(a)) -/
  | lrng
mutual
inductive IE where
  | v (i : Nat) | int (n : Int) | str (z : Str) | bl (b : Bool) | non
  | gl (x : Str)
  | bin (op : Operator) (a b : IE) | cmp (op : CmpOp) (a b : IE)
  | cm2 (o o' : CmpOp) (a b c : IE)
  | and (es : List IE) | or (es : List IE) | not (a : IE) | un (op : UnaryOp) (a : IE)
  | ite (c a b : IE) | lst (es : List IE) | tup (es : List IE) | dic0
  | ix (a b : IE) | sl (a : IE) (lo hi : List IE) | rev (a : IE)
  | att (a : IE) (f : Str)
  | cu (x : Str) (i : Nat) (es : List IE) | cb (x : Str) (id : String) (es : List IE) | ct (x : Str) (id : String) (es : List IE)
  | mu (a : IE) (m : Str) (es : List IE) | mb (a : IE) (m : Str) (es : List IE)
  | isT (a : IE) (ts : List IE)
  | cuk (x : Str) (i : Nat) (es : List IE) (ks : List Str) (vs : List IE) | muk (a : IE) (m : Str) (es : List IE) (ks : List Str) (vs : List IE) | sm (x m : Str) (es : List IE)
  | olst (es : List IE) | oli (e : IE) | odic
  | lam (b : IE) | pr (s : Sh) (es : List IE)
  | lc (elt : IE) (tg : List Nat) (it : IT) (ifs : List IE) (own : List (Str × Nat))
inductive IT where
  | li (e : IE) | ra (e : IE) | en (e : IE) | zi (a b : IE)
end
/-- names: the slots', the scope, the callables of one's own by number, the built-ins; whether all cells are the def's own -/
structure Ck where
  N : List Str
  sc : Scope
  us : List Str
  bs : List Str
  top : Bool
def isVis (sc : Scope) (x : Str) : Bool := match sc.names.lookup x with
  | some .local => true
  | some .cell => true
  | some .free => true
  | _ => false
def glB (sc : Scope) (x : Str) : Bool := decide (sc.names.lookup x = some .globalImplicit) && !(x == ("__debug__" : Str))
def nmB (x : Str) : Bool := !(x == ("__debug__" : Str)) && !(x == ("__classdict__" : Str))
/-- none of the rare forms -/
def plainE : Expr → Bool
  | .Starred _ _ => false
  | .Slice _ _ _ _ => false
  | .Set _ _ _ => false
  | _ => true
def baseB : Expr → Bool
  | .Call (.Name x _) [] [] _ => !(x == ("super" : Str))
  | _ => true
def tg1 (c : Ck) (i : Nat) (e : Expr) : Bool := match e with
  | .Name x _ => decide (c.N[i]? = some x) && (decide (c.sc.names.lookup x = some .local) || (c.top && decide (c.sc.names.lookup x = some .cell)))
  | _ => false
def tgEach (c : Ck) : List Nat → List Expr → Bool
  | [], [] => true
  | i :: is, e :: es => tg1 c i e && tgEach c is es
  | _, _ => false
def tgB (c : Ck) (is : List Nat) (e : Expr) : Bool := match is with
  | [i] => tg1 c i e
  | is => match e with
    | .Tuple es _ _ => tgEach c is es
    | _ => false
/-- e is the constant d -/
def conB : D → Expr → Bool
  | .non, .Constant .none _ _ => true
  | .bl b, .Constant (.bool y) _ _ => decide (b = y)
  | .int n, .Constant (.int m) _ _ => decide (n = m)
  | .str z, .Constant (.str y) _ _ => decide (z = y)
  | _, _ => false
def keyB : Key → Expr → Bool
  | .inl n, .Constant (.int m) _ _ => decide (n = m)
  | .inr z, .Constant (.str y) _ _ => decide (z = y)
  | _, _ => false
def dispB : List (Key × D) → List (Option Expr) → List Expr → Bool
  | [], [], [] => true
  | (k, d) :: r, some a :: ks, b :: vs => keyB k a && conB d b && dispB r ks vs
  | _, _, _ => false
/-- the parts of a further form -/
def subs (c : Ck) : Sh → Expr → Option (List Expr)
  | .told x i, e => match e with
    | .Call (.Name y _) [a] [] _ => if (decide (x = y) && decide (c.us[i]? = some x) && glB c.sc x && c.top && plainE a) = true then some [a] else none
    | _ => none
  | .lrng, e => match e with
    | .Call (.Name y _) [.Call (.Name z _) [a] [] _] [] _ => if (decide (y = "list") && decide (z = "range") && decide (("list" : Str) ∈ c.bs) && decide (("range" : Str) ∈ c.bs) && glB c.sc "list" && glB c.sc "range" && plainE a) = true then some [a] else none
    | _ => none
  | .dicC kvs, e => match e with
    | .Dict ks vs _ => if (dispB kvs ks vs && !kvs.isEmpty && decide (kvs.length ≤ 15) && decide ((kvs.map (·.1)).Nodup)) = true then some [] else none
    | _ => none
  | .act i, e => match e with
    | .Call (.Name y _) [] [] _ => if (decide (c.N[i]? = some y) && isVis c.sc y && nmB y && c.top) = true then some [] else none
    | _ => none
/-- a lambda's scope in the maker's, as lamSB -/
def lamC (sc scope : Scope) : Bool := LamX.lamSB sc scope
def noPar : Arguments → Bool
  | ⟨[], [], none, [], [], none, []⟩ => true
  | _ => false
mutual
def ck (c : Ck) : IE → Expr → Bool
  | .v i, e => match e with
    | .Name x _ => decide (c.N[i]? = some x) && isVis c.sc x && nmB x
    | _ => false
  | .int n, e => match e with
    | .Constant (.int m) _ _ => decide (n = m)
    | _ => false
  | .str z, e => match e with
    | .Constant (.str y) _ _ => decide (z = y)
    | _ => false
  | .bl b, e => match e with
    | .Constant (.bool y) _ _ => decide (b = y)
    | _ => false
  | .non, e => match e with
    | .Constant .none _ _ => true
    | _ => false
  | .gl x, e => match e with
    | .Name y _ => decide (x = y) && glB c.sc x
    | _ => false
  | .bin op a b, e => match e with
    | .BinOp a' op' b' _ => decide (op = op') && ck c a a' && ck c b b'
    | _ => false
  | .cmp op a b, e => match e with
    | .Compare a' [op'] [b'] _ => decide (op = op') && ck c a a' && ck c b b'
    | _ => false
  | .cm2 o o' a b d, e => match e with
    | .Compare a' [p, p'] [b', d'] _ => decide (o = p) && decide (o' = p') && ck c a a' && ck c b b' && ck c d d'
    | _ => false
  | .and es, e => match e with
    | .BoolOp .And es' _ => ckL c es es'
    | _ => false
  | .or es, e => match e with
    | .BoolOp .Or es' _ => ckL c es es'
    | _ => false
  | .not a, e => match e with
    | .UnaryOp .Not a' _ => ck c a a'
    | _ => false
  | .un op a, e => match e with
    | .UnaryOp op' a' _ => decide (op = op') && !decide (op = .Not) && ck c a a'
    | _ => false
  | .ite d a b, e => match e with
    | .IfExp d' a' b' _ => ck c d d' && ck c a a' && ck c b b'
    | _ => false
  | .lst es, e => match e with
    | .List es' _ => ckL c es es'
    | _ => false
  | .tup es, e => match e with
    | .Tuple es' _ _ => ckL c es es'
    | _ => false
  | .dic0, e => match e with
    | .Dict [] [] _ => true
    | _ => false
  | .ix a b, e => match e with
    | .Subscript a' b' _ => ck c a a' && ck c b b'
    | _ => false
  | .sl a lo hi, e => match e with
    | .Subscript a' (.Slice lo' hi' none _) _ => ck c a a' && ckO c lo lo' && ckO c hi hi'
    | _ => false
  | .rev a, e => match e with
    | .Subscript a' (.Slice none none (some (.UnaryOp .USub (.Constant (.int 1) _ _) _)) _) _ => ck c a a'
    | _ => false
  | .att a f, e => match e with
    | .Attribute a' f' _ => decide (f = f') && baseB a' && ck c a a'
    | _ => false
  | .cu x i es, e => match e with
    | .Call (.Name y _) es' [] _ => decide (x = y) && decide (c.us[i]? = some x) && glB c.sc x && ckL c es es'
    | _ => false
  | .cb x id es, e => match e with
    | .Call (.Name y _) es' [] _ => decide (x = y) && decide (x ∈ c.bs) && decide (bootBuiltins x = some (.builtin id)) && decide (x ≠ "__name__") && !es'.isEmpty && glB c.sc x && ckL c es es'
    | _ => false
  | .ct x id es, e => match e with
    | .Call (.Name y _) es' [] _ => decide (x = y) && decide (x ∈ c.bs) && decide (bootBuiltins x = some (.type id)) && decide (x ≠ "__name__") && glB c.sc x && ckL c es es'
    | _ => false
  | .mu a m es, e => match e with
    | .Call (.Attribute a' m' ap) es' [] p => decide (m = m') && baseB a' && (ap.endLine == p.line) && decide (es'.length < 20) && ck c a a' && ckL c es es'
    | _ => false
  | .mb a m es, e => match e with
    | .Call (.Attribute a' m' ap) es' [] p => decide (m = m') && baseB a' && (ap.endLine == p.line) && decide (es'.length < 20) && ck c a a' && ckL c es es'
    | _ => false
  | .isT a ts, e => match e with
    | .Call (.Name y _) [a', .Tuple ts' _ _] [] _ => decide (y = "isinstance") && decide (y ∈ c.bs) && glB c.sc y && ck c a a' && ckL c ts ts'
    | _ => false
  | .cuk x i es ks vs, e => match e with
    | .Call (.Name y _) es' kw' _ => decide (x = y) && decide (c.us[i]? = some x) && glB c.sc x && ckL c es es' && ckK c ks vs kw'
    | _ => false
  | .muk a m es ks vs, e => match e with
    | .Call (.Attribute a' m' ap) es' kw' p => decide (m = m') && baseB a' && (ap.endLine == p.line) && decide (es'.length + kw'.length < 20) && ck c a a' && ckL c es es' && ckK c ks vs kw'
    | _ => false
  | .sm x m es, e => match e with
    | .Call (.Attribute (.Name y _) m' ap) es' [] p => decide (x = y) && decide (m = m') && glB c.sc x && (ap.endLine == p.line) && decide (es'.length < 20) && ckL c es es'
    | _ => false
  | .olst es, e => match e with
    | .List es' _ => ckL c es es'
    | _ => false
  | .oli x, e => match e with
    | .Call (.Name y _) [e'] [] _ => decide (y = "list") && decide (y ∈ c.bs) && glB c.sc y && ck c x e'
    | _ => false
  | .odic, e => match e with
    | .Dict [] [] _ => true
    | _ => false
  | .lam b, e => match e with
    | .Lambda ps b' scope _ => c.top && noPar ps && lamC c.sc scope && ck { c with sc := scope, top := false } b b'
    | _ => false
  | .pr s es, e => plainE e && (match subs c s e with
    | some es' => ckL c es es'
    | none => false)
  | .lc elt tg it ifs own, e => match e with
    | .ListComp elt' [⟨tg', iter', ifs', 0⟩] scope _ => ckI c it tg' iter' && tgB { c with sc := relS scope c.sc, top := false } tg tg' && blkC c.N c.sc scope own && (tg.all fun i => decide (i ∈ own.map (·.2))) &&
      ck { c with sc := relS scope c.sc, top := false } elt elt' && ckL { c with sc := relS scope c.sc, top := false } ifs ifs'
    | _ => false
def ckL (c : Ck) : List IE → List Expr → Bool
  | [], es => match es with
    | [] => true
    | _ => false
  | x :: xs, es => match es with
    | e :: es => ck c x e && ckL c xs es
    | _ => false
def ckK (c : Ck) : List Str → List IE → List Keyword → Bool
  | ks, [], kw => match ks, kw with
    | [], [] => true
    | _, _ => false
  | ks, x :: xs, kw => match ks, kw with
    | k :: ks, ⟨some k', e, _⟩ :: kw => decide (k = k') && ck c x e && ckK c ks xs kw
    | _, _ => false
def ckO (c : Ck) : List IE → Option Expr → Bool
  | [], e => match e with
    | none => true
    | _ => false
  | [x], e => match e with
    | some e => ck c x e
    | _ => false
  | _, _ => false
def ckI (c : Ck) : IT → Expr → Expr → Bool
  | .li x, _, e => ck c x e
  | .ra x, _, e => match e with
    | .Call (.Name y _) [e'] [] _ => decide (y = "range") && decide (y ∈ c.bs) && glB c.sc y && ck c x e'
    | _ => false
  | .en x, tg, e => match e with
    | .Call (.Name y _) [e'] [] _ => (match tg with | .Tuple _ _ _ => true | _ => false) && decide (y = "enumerate") && decide (y ∈ c.bs) && glB c.sc y && ck c x e'
    | _ => false
  | .zi a b, tg, e => match e with
    | .Call (.Name y _) [a', b'] [] _ => (match tg with | .Tuple _ _ _ => true | _ => false) && decide (y = "zip") && decide (y ∈ c.bs) && glB c.sc y && ck c a a' && ck c b b'
    | _ => false
end
end Wx
set_option Elab.async false
set_option linter.all false
set_option maxRecDepth 100000
set_option maxHeartbeats 2000000
/-! Wx, part 1: states by data: slots, own (mutable) things, the base; steps. -/
namespace Wx
open PySem L2 Fx

/-! ### the base without tables of code objects -/
def ExN (H H' : Hp) : Prop := ∀ a o, H a = some o → (∀ ps, o ≠ .tbl ps) → H' a = some o
def ntB (B : Hp) : Hp := fun a => match B a with
  | some (.tbl _) => none
  | o => o
def NT (B : Hp) : Prop := ∀ a ps, B a ≠ some (.tbl ps)
theorem nt_le {B : Hp} : Ex (ntB B) B := fun a o h => by
  unfold ntB at h
  split at h
  · cases h
  · exact h
theorem nt_some {B : Hp} {a : Addr} {o : HO} (h : B a = some o) (n : ∀ ps, o ≠ .tbl ps) : ntB B a = some o := by
  unfold ntB
  rw [h]
  cases o <;> first | rfl | exact absurd rfl (n _)
theorem nt_none {B : Hp} {a : Addr} (h : B a = none) : ntB B a = none := by
  unfold ntB
  rw [h]
theorem nt_NT (B : Hp) : NT (ntB B) := fun a ps h => by
  have h1 := nt_le a _ h
  unfold ntB at h
  rw [h1] at h
  cases h
theorem nt_ex {B : Hp} : ExN B (ntB B) := fun _ _ h n => nt_some h n
theorem NT.ex {B B' : Hp} (n : NT B) (e : ExN B B') : Ex B B' := fun a o h => e a o h fun ps z => n a ps (z ▸ h)
theorem NT.ex_nt {B B' : Hp} (n : NT B) (e : Ex B B') : Ex B (ntB B') := fun a o h => nt_some (e a o h) fun ps z => n a ps (z ▸ h)

section
variable {K : PySem.W.Frag} {H H' : Hp}
theorem rdN {a : Addr} {u : HO} (e : ExN H H') (n : ∀ ps, u ≠ .tbl ps) (h : Rd H a u) : Rd H' a u := by
  rcases h with h | ⟨o, h⟩
  · exact Or.inl (e _ _ h n)
  · exact Or.inr ⟨o, e _ _ h fun _ z => nomatch z⟩
theorem sqtN {a : Addr} {xs : List V} (e : ExN H H') (h : SqT K H a xs) : SqT K H' a xs := by
  rcases h with h | h
  · exact Or.inl (rdN e (fun _ z => nomatch z) h)
  · exact Or.inr h
theorem sqlN {a : Addr} {xs : List V} (e : ExN H H') (h : SqL K H a xs) : SqL K H' a xs := by
  rcases h with h | h
  · exact Or.inl (rdN e (fun _ z => nomatch z) h)
  · exact Or.inr h
mutual
theorem rpN (e : ExN H H') : ∀ {d : D} {v : V}, Rp K H d v → Rp K H' d v
  | .non, _, h => by simpa only [Rp] using h
  | .bl _, _, h => by simpa only [Rp] using h
  | .int _, _, h => by simpa only [Rp] using h
  | .str _, _, h => by simpa only [Rp] using h
  | .ref _, _, h => by simpa only [Rp] using h
  | .ty _, _, h => by simpa only [Rp] using h
  | .lst ds, _, h => by
    simp only [Rp] at h ⊢
    obtain ⟨a, xs, e1, h1, h2⟩ := h
    exact ⟨a, xs, e1, e _ _ h1 (fun _ z => nomatch z), rplN e h2⟩
  | .tup ds, _, h => by
    simp only [Rp] at h ⊢
    obtain ⟨a, xs, e1, h1, h2⟩ := h
    exact ⟨a, xs, e1, sqtN e h1, rplN e h2⟩
  | .obj C fs, _, h => by
    simp only [Rp] at h ⊢
    obtain ⟨a, dx, gs, e1, h1, h2⟩ := h
    exact ⟨a, dx, gs, e1, e _ _ h1 (fun _ z => nomatch z), rpfN e h2⟩
  | .dic kvs, _, h => by
    simp only [Rp] at h ⊢
    obtain ⟨a, xs, e1, h1, h2⟩ := h
    exact ⟨a, xs, e1, rdN e (fun _ z => nomatch z) h1, rpkN e h2⟩
  | .pot, _, h => by
    simp only [Rp] at h ⊢
    obtain ⟨a, e1, h1⟩ := h
    exact ⟨a, e1, e _ _ h1 (fun _ z => nomatch z)⟩
  | .scr ns, _, h => by
    simp only [Rp] at h ⊢
    obtain ⟨a, e1, h1⟩ := h
    exact ⟨a, e1, sqlN e h1⟩
theorem rplN (e : ExN H H') : ∀ {ds : List D} {vs : List V}, RpL K H ds vs → RpL K H' ds vs
  | [], _, h => by simpa only [RpL] using h
  | d :: ds, _, h => by
    simp only [RpL] at h ⊢
    obtain ⟨v, r, e1, h1, h2⟩ := h
    exact ⟨v, r, e1, rpN e h1, rplN e h2⟩
theorem rpfN (e : ExN H H') : ∀ {ds : List (Str × D)} {vs : List (Str × V)}, RpF K H ds vs → RpF K H' ds vs
  | [], _, h => by simpa only [RpF] using h
  | (f, d) :: ds, _, h => by
    simp only [RpF] at h ⊢
    obtain ⟨v, r, e1, h1, h2⟩ := h
    exact ⟨v, r, e1, rpN e h1, rpfN e h2⟩
theorem rpkN (e : ExN H H') : ∀ {ds : List (Key × D)} {vs : List (Key × V)}, RpK K H ds vs → RpK K H' ds vs
  | [], _, h => by simpa only [RpK] using h
  | (f, d) :: ds, _, h => by
    simp only [RpK] at h ⊢
    obtain ⟨v, r, e1, h1, h2⟩ := h
    exact ⟨v, r, e1, rpN e h1, rpkN e h2⟩
end
end

/-! ### slots by data -/
abbrev Sl := List (Option D)
structure SdR (K : PySem.W.Frag) (B : Hp) (l : Sl) (σ : L2.St) : Prop where
  len : l.length = σ.length
  at_ : ∀ (i : Nat) (d : D), l[i]? = some (some d) → ∃ v, σ[i]? = some (some v) ∧ Rp K B d v
theorem SdR.mono {K : PySem.W.Frag} {B B' : Hp} {l : Sl} {σ : L2.St} (s : SdR K B l σ) (e : Ex B B') : SdR K B' l σ := ⟨s.len, fun i d h => by
  obtain ⟨v, h1, h2⟩ := s.at_ i d h
  exact ⟨v, h1, h2.mono e⟩⟩

/-! ### things of one's own, by address -/
/-- a def that makes lambdas: its names, its cells -/
structure Me where
  c : Ck
  cells : List (Str × Addr)
inductive MO where
  | lst (ds : List D) | dK (kvs : List (Key × D)) | dT (kvs : List (List Key × D)) | ins (C : Addr) (fs : List (Str × D)) | lam (me : Me) (b : IE) (sn : Option (Sl × L2.St))
/-- at p stands a lambda with the body b, its code object at c' -/
def lamFact (me : Me) (b : IE) (q : Str) (p c' : Addr) (h : Heap) : Prop := ∃ (ps : Arguments) (bodyE : Expr) (scope : Scope) (pm ctv : Value),
  h.get? p = some (PySem.W.kla_obj "<lambda>" q ps bodyE scope (cloFrom me.cells scope.names []) pm c' ctv) ∧ noPar ps = true ∧ LamX.LamS me.c.sc scope ∧ ck { me.c with sc := scope, top := false } b bodyE = true
def lamO (me : Me) (b : IE) (q : Str) (p c' : Addr) : HO := .ext (lamFact me b q p c')
abbrev Mem := List (Addr × MO)
abbrev Mem.at (M : Mem) (p : Addr) : Option MO := M.lookup p
abbrev Mem.ks (M : Mem) : List Addr := M.map (·.1)
/-- M with another thing at p -/
def Mem.put (M : Mem) (p : Addr) (o : MO) : Mem := M.map fun q => if q.1 = p then (p, o) else q
/-- a dict whose keys are tuples: its values' data -/
def RpT (K : PySem.W.Frag) (B : Hp) : List (List Key × D) → List (List Key × V) → Prop
  | [], vs => vs = []
  | (k, d) :: r, vs => ∃ v t, vs = (k, v) :: t ∧ Rp K B d v ∧ RpT K B r t
theorem RpT.mono {K : PySem.W.Frag} {B B' : Hp} (e : Ex B B') : ∀ {kvs : List (List Key × D)} {xs : List (List Key × V)}, RpT K B kvs xs → RpT K B' kvs xs
  | [], _, h => h
  | (_, _) :: _, _, ⟨v, t, h, r, q⟩ => ⟨v, t, h, r.mono e, RpT.mono e q⟩
def MoR (K : PySem.W.Frag) (B H : Hp) (a : Addr) : MO → Prop
  | .lst ds => ∃ vs, H a = some (.lst vs) ∧ RpL K B ds vs
  | .dK kvs => ∃ xs, H a = some (.dK xs) ∧ RpK K B kvs xs
  | .dT kvs => ∃ xs, H a = some (.dT xs) ∧ RpT K B kvs xs
  | .ins C fs => ∃ dx gs, H a = some (.ins C dx gs) ∧ RpF K B fs gs
  | .lam me b sn => ∃ q c', H a = some (lamO me b q a c') ∧ H c' = some (LamX.CodeO c' q) ∧ ∀ p, sn = some p → SdR K B p.1 p.2
structure MemR (K : PySem.W.Frag) (B H : Hp) (M : Mem) : Prop where
  nd : M.ks.Nodup
  at_ : ∀ p o, M.at p = some o → B p = none ∧ MoR K B H p o
theorem at_ks {M : Mem} {p : Addr} {o : MO} (h : M.at p = some o) : p ∈ M.ks := by
  induction M with
  | nil => cases h
  | cons x M ih =>
    unfold Mem.at at h
    rw [List.lookup_cons] at h
    by_cases e : p = x.1
    · exact List.mem_cons.mpr (.inl e)
    · rw [beq_eq_false_iff_ne.mpr e] at h
      exact List.mem_cons.mpr (.inr (ih h))
theorem ks_at : ∀ {M : Mem} {p : Addr}, p ∈ M.ks → ∃ o, M.at p = some o
  | [], p, h => nomatch h
  | (q, o) :: M, p, h => by
    unfold Mem.at
    rw [List.lookup_cons]
    by_cases e : p = q
    · subst e
      rw [beq_self_eq_true]
      exact ⟨o, rfl⟩
    · rw [beq_eq_false_iff_ne.mpr e]
      rcases List.mem_cons.mp h with z | z
      · exact absurd z e
      · exact ks_at z
theorem put_ks (M : Mem) (p : Addr) (o : MO) : (M.put p o).ks = M.ks := by
  unfold Mem.put Mem.ks
  rw [List.map_map]
  refine List.map_congr_left fun q _ => ?_
  show (if q.1 = p then (p, o) else q).1 = q.1
  split
  · rename_i h; exact h.symm
  · rfl
theorem put_at_ne : ∀ {M : Mem} {p q : Addr} {o : MO}, q ≠ p → (M.put p o).at q = M.at q
  | [], _, _, _, _ => rfl
  | (r, u) :: M, p, q, o, h => by
    show List.lookup q ((if r = p then (p, o) else (r, u)) :: Mem.put M p o) = _
    by_cases e : r = p
    · subst e
      rw [if_pos rfl, List.lookup_cons, beq_eq_false_iff_ne.mpr h]
      show _ = List.lookup q ((r, u) :: M)
      rw [List.lookup_cons, beq_eq_false_iff_ne.mpr h]
      exact put_at_ne h
    · rw [if_neg e]
      show _ = List.lookup q ((r, u) :: M)
      rw [List.lookup_cons, List.lookup_cons]
      by_cases e2 : q = r
      · subst e2; rw [beq_self_eq_true]
      · rw [beq_eq_false_iff_ne.mpr e2]; exact put_at_ne h
theorem put_at_same : ∀ {M : Mem} {p : Addr} {o : MO}, p ∈ M.ks → (M.put p o).at p = some o
  | [], _, _, h => nomatch h
  | (r, u) :: M, p, o, h => by
    show List.lookup p ((if r = p then (p, o) else (r, u)) :: Mem.put M p o) = _
    by_cases e : r = p
    · rw [if_pos e, List.lookup_cons, beq_self_eq_true]
    · rw [if_neg e, List.lookup_cons, beq_eq_false_iff_ne.mpr (Ne.symm e)]
      refine put_at_same ?_
      rcases List.mem_cons.mp h with z | z
      · exact absurd z.symm e
      · exact z


structure StR (K : PySem.W.Frag) (T : List (Addr × Str)) (l : Sl) (M : Mem) (σ : L2.St) (B H : Hp) : Prop where
  ex : Ex B H
  nt : NT B
  sl : SdR K B l σ
  mm : MemR K B H M
  tb : LamX.Tabs T H
/-- a step: M to M', the base grows, the heap keeps all that is not M's -/
structure Go (M : Mem) (B H : Hp) (M' : Mem) (B' H' : Hp) : Prop where
  b : Ex B B'
  h : ∀ a o, H a = some o → a ∉ M.ks → (∀ ps, o ≠ .tbl ps) → H' a = some o
  nw : ∀ a o, H a = some o → B a = none → a ∉ M.ks → (∀ ps, o ≠ .tbl ps) → B' a = none
  fr : ∀ a, a ∈ M'.ks → a ∉ M.ks → ∀ o, H a = some o → ∃ ps, o = .tbl ps
theorem Go.refl {M : Mem} {B H : Hp} : Go M B H M B H := ⟨Ex.refl B, fun _ _ h _ _ => h, fun _ _ _ h _ _ => h, fun _ h n => absurd h n⟩
theorem Go.trans {M M1 M2 : Mem} {B H B1 H1 B2 H2 : Hp} (s : Go M B H M1 B1 H1) (t : Go M1 B1 H1 M2 B2 H2) : Go M B H M2 B2 H2 := by
  have k : ∀ a o, H a = some o → a ∉ M.ks → (∀ ps, o ≠ .tbl ps) → a ∉ M1.ks := fun a o h1 h2 h3 h4 => by
    obtain ⟨ps, e⟩ := s.fr a h4 h2 o h1
    exact h3 ps e
  refine ⟨s.b.trans t.b, fun a o h1 h2 h3 => t.h a o (s.h a o h1 h2 h3) (k a o h1 h2 h3) h3, fun a o h1 hb h2 h3 => t.nw a o (s.h a o h1 h2 h3) (s.nw a o h1 hb h2 h3) (k a o h1 h2 h3) h3, fun a h1 h2 o h3 => ?_⟩
  by_cases h4 : a ∈ M1.ks
  · exact s.fr a h4 h2 o h3
  · by_cases h5 : ∀ ps, o ≠ .tbl ps
    · exact t.fr a h1 h4 o (s.h a o h3 h2 h5)
    · obtain ⟨ps, e⟩ := Classical.not_forall.mp h5
      exact ⟨ps, Classical.not_not.mp e⟩
section
variable {K : PySem.W.Frag} {T : List (Addr × Str)} {l l' : Sl} {M M' : Mem} {σ σ' : L2.St} {B H B' H' : Hp}
theorem SdR.set (s : SdR K B l σ) {i : Nat} {d : D} {v : V} (r : Rp K B d v) : SdR K B (l.set i (some d)) (σ.set i (some v)) := ⟨by rw [List.length_set, List.length_set]; exact s.len, fun j d' h => by
  by_cases e : i = j
  · subst e
    by_cases hl : i < l.length
    · rw [List.getElem?_set_self hl] at h
      cases h
      exact ⟨v, List.getElem?_set_self (s.len ▸ hl), r⟩
    · rw [List.getElem?_eq_none (by rw [List.length_set]; omega)] at h
      cases h
  · rw [List.getElem?_set_ne e] at h
    obtain ⟨w, h1, h2⟩ := s.at_ j d' h
    exact ⟨w, by rw [List.getElem?_set_ne e]; exact h1, h2⟩⟩
/-- forgetting -/
theorem SdR.weak (s : SdR K B l σ) (h : l'.length = l.length) (w : ∀ (i : Nat) (d : D), l'[i]? = some (some d) → l[i]? = some (some d)) : SdR K B l' σ := ⟨h.trans s.len, fun i d e => s.at_ i d (w i d e)⟩
/-- what has no form of its own stays -/
def ExE (H H' : Hp) : Prop := ∀ a φ, H a = some (.ext φ) → H' a = some (.ext φ)
theorem Ex.e (h : Ex H H') : ExE H H' := fun a φ z => h a _ z
theorem MoR.mono {a : Addr} {o : MO} (m : MoR K B H a o) (e : Ex B B') (h : H' a = H a) (hx : ExE H H') : MoR K B' H' a o := by
  cases o with
  | lst ds => obtain ⟨vs, h1, h2⟩ := m; exact ⟨vs, h.trans h1, h2.mono e⟩
  | dK ds => obtain ⟨vs, h1, h2⟩ := m; exact ⟨vs, h.trans h1, h2.mono e⟩
  | dT ds => obtain ⟨vs, h1, h2⟩ := m; exact ⟨vs, h.trans h1, RpT.mono e h2⟩
  | ins C ds => obtain ⟨dx, gs, h1, h2⟩ := m; exact ⟨dx, gs, h.trans h1, h2.mono e⟩
  | lam me b sn => obtain ⟨q, c', h1, h2, h3⟩ := m; exact ⟨q, c', h.trans h1, hx _ _ h2, fun p e2 => (h3 p e2).mono e⟩
theorem MoR.there {a : Addr} {o : MO} (m : MoR K B H a o) : ∃ u, H a = some u ∧ ∀ ps, u ≠ .tbl ps := by
  cases o with
  | lst ds => obtain ⟨vs, h1, h2⟩ := m; exact ⟨_, h1, fun _ z => nomatch z⟩
  | dK ds => obtain ⟨vs, h1, h2⟩ := m; exact ⟨_, h1, fun _ z => nomatch z⟩
  | dT ds => obtain ⟨vs, h1, h2⟩ := m; exact ⟨_, h1, fun _ z => nomatch z⟩
  | ins C ds => obtain ⟨dx, gs, h1, h2⟩ := m; exact ⟨_, h1, fun _ z => nomatch z⟩
  | lam me b sn => obtain ⟨q, c', h1, h2⟩ := m; exact ⟨_, h1, fun _ z => nomatch z⟩
/-- a step that changes nothing of one's own -/
theorem StR.step (S : StR K T l M σ B H) (s : Step B H B' H') : Go M B H M (ntB B') H' ∧ StR K T l M σ (ntB B') H' := by
  have e1 : Ex B (ntB B') := S.nt.ex_nt s.b
  have nn : ∀ p o, M.at p = some o → B' p = none ∧ H' p = H p := fun p o h => by
    obtain ⟨h1, h2⟩ := S.mm.at_ p o h
    obtain ⟨u, hu, _⟩ := h2.there
    exact ⟨s.nw p h1 (by rw [hu]; exact fun z => nomatch z), by rw [hu, s.h p u hu]⟩
  refine ⟨⟨e1, fun a o h _ _ => s.h a o h, fun a o h hb _ _ => nt_none (s.nw a hb (by rw [h]; exact fun z => nomatch z)), fun a h n => absurd h n⟩, ?_⟩
  exact ⟨nt_le.trans s.bh, nt_NT B', S.sl.mono e1, ⟨S.mm.nd, fun p o h => ⟨nt_none (nn p o h).1, (S.mm.at_ p o h).2.mono e1 (nn p o h).2 (Ex.e s.h)⟩⟩, S.tb.ext s.h⟩
/-- .. nothing of the base either -/
theorem StR.stepH (S : StR K T l M σ B H) (s : Ex H H') : Go M B H M B H' ∧ StR K T l M σ B H' := by
  refine ⟨⟨Ex.refl B, fun a o h _ _ => s a o h, fun a o h hb _ _ => hb, fun a h n => absurd h n⟩, ?_⟩
  refine ⟨S.ex.trans s, S.nt, S.sl, ⟨S.mm.nd, fun p o h => ⟨(S.mm.at_ p o h).1, ?_⟩⟩, S.tb.ext s⟩
  obtain ⟨u, hu, _⟩ := (S.mm.at_ p o h).2.there
  exact (S.mm.at_ p o h).2.mono (Ex.refl B) (by rw [hu, s p u hu]) (Ex.e s)
theorem StR.slots (S : StR K T l M σ B H) (h : SdR K B l' σ') : StR K T l' M σ' B H := ⟨S.ex, S.nt, h, S.mm, S.tb⟩
/-- a new thing of one's own -/
theorem StR.new (S : StR K T l M σ B H) {p : Addr} {u : HO} {o : MO} (hp : H p = none) (m : MoR K B (upd H p u) p o) : Go M B H ((p, o) :: M) B (upd H p u) ∧ StR K T l ((p, o) :: M) σ B (upd H p u) ∧ p ∉ M.ks := by
  have np : p ∉ M.ks := fun h => by
    obtain ⟨o', e⟩ := ks_at h
    obtain ⟨u', hu, _⟩ := (S.mm.at_ p o' e).2.there
    rw [hp] at hu; cases hu
  have ex : Ex H (upd H p u) := Ex.new hp
  refine ⟨⟨Ex.refl B, fun a o h _ _ => ex a o h, fun a o h hb _ _ => hb, fun a h n o' ho => ?_⟩, ⟨S.ex.trans ex, S.nt, S.sl, ⟨List.nodup_cons.mpr ⟨np, S.mm.nd⟩, fun q o' h => ?_⟩, S.tb.ext ex⟩, np⟩
  · rcases List.mem_cons.mp h with e | e
    · have e : a = p := e
      rw [e, hp] at ho; cases ho
    · exact absurd e n
  · unfold Mem.at at h
    rw [List.lookup_cons] at h
    by_cases e : q = p
    · subst e
      rw [beq_self_eq_true] at h
      cases h
      exact ⟨S.ex.back hp, m⟩
    · rw [beq_eq_false_iff_ne.mpr e] at h
      exact ⟨(S.mm.at_ q o' h).1, (S.mm.at_ q o' h).2.mono (Ex.refl B) (upd_ne e) (Ex.e ex)⟩
/-- a thing of one's own is changed -/
theorem StR.put (S : StR K T l M σ B H) {p : Addr} {u : HO} {o o' : MO} (hp : M.at p = some o) (m : MoR K B (upd H p u) p o') (hu : ∀ ps, u ≠ .tbl ps) (no : ∀ me b sn, o ≠ .lam me b sn := by exact fun _ _ _ z => nomatch z) : Go M B H (M.put p o') B (upd H p u) ∧ StR K T l (M.put p o') σ B (upd H p u) := by
  obtain ⟨hb, hm⟩ := S.mm.at_ p o hp
  obtain ⟨u0, hu0, nu0⟩ := hm.there
  have nx : ∀ c φ, H c = some (.ext φ) → c ≠ p := fun c φ e2 z => by
    rw [z] at e2
    cases o with
    | lst _ => obtain ⟨_, e, _⟩ := hm; rw [e2] at e; cases e
    | dK _ => obtain ⟨_, e, _⟩ := hm; rw [e2] at e; cases e
    | dT _ => obtain ⟨_, e, _⟩ := hm; rw [e2] at e; cases e
    | ins _ _ => obtain ⟨_, _, e, _⟩ := hm; rw [e2] at e; cases e
    | lam me b sn => exact no me b sn rfl
  refine ⟨⟨Ex.refl B, fun a o h n _ => ?_, fun a o h hb _ _ => hb, fun a h n => absurd (by rw [put_ks] at h; exact h) n⟩, ⟨fun a v h => ?_, S.nt, S.sl, ⟨by rw [put_ks]; exact S.mm.nd, fun q o2 h => ?_⟩, fun q hq => ?_⟩⟩
  · rw [upd_ne (fun z => n (by rw [z]; exact at_ks hp))]; exact h
  · rw [upd_ne (ne_of_none h hb)]; exact S.ex a v h
  · by_cases e : q = p
    · subst e
      rw [put_at_same (at_ks hp)] at h
      cases h
      exact ⟨hb, m⟩
    · rw [put_at_ne e] at h
      exact ⟨(S.mm.at_ q o2 h).1, (S.mm.at_ q o2 h).2.mono (Ex.refl B) (upd_ne e) fun c φ z => (upd_ne (nx c φ z)).trans z⟩
  · obtain ⟨ps, h1, h2, h3⟩ := S.tb q hq
    refine ⟨ps, ?_, h2, fun pos cv hc => ?_⟩
    · rw [upd_ne (fun z => nu0 ps (by rw [z, hu0] at h1; exact Option.some.inj h1))]; exact h1
    · obtain ⟨c, e1, e2⟩ := h3 pos cv hc
      exact ⟨c, e1, (upd_ne (nx _ _ e2)).trans e2⟩
/-- a thing is told otherwise, nothing changes -/
theorem StR.re (S : StR K T l M σ B H) {p : Addr} {o o' : MO} (hp : M.at p = some o) (m : MoR K B H p o') : Go M B H (M.put p o') B H ∧ StR K T l (M.put p o') σ B H := by
  refine ⟨⟨Ex.refl B, fun a o h _ _ => h, fun a o h hb _ _ => hb, fun a h n => absurd (by rw [put_ks] at h; exact h) n⟩, S.ex, S.nt, S.sl, ⟨by rw [put_ks]; exact S.mm.nd, fun q o2 h => ?_⟩, S.tb⟩
  by_cases e : q = p
  · subst e
    rw [put_at_same (at_ks hp)] at h
    cases h
    exact ⟨(S.mm.at_ q _ hp).1, m⟩
  · rw [put_at_ne e] at h
    exact S.mm.at_ q o2 h
/-- things are forgotten -/
theorem StR.sub0 {M' : Mem} (S : StR K T l M σ B H) (sub : ∀ p o, M'.at p = some o → M.at p = some o) (nd : M'.ks.Nodup) (ks : ∀ p ∈ M'.ks, p ∈ M.ks) : Go M B H M' B H ∧ StR K T l M' σ B H :=
  ⟨⟨Ex.refl B, fun a o h _ _ => h, fun a o h hb _ _ => hb, fun a h n => absurd (ks a h) n⟩, S.ex, S.nt, S.sl, ⟨nd, fun p o h => S.mm.at_ p o (sub p o h)⟩, S.tb⟩
end
end Wx
set_option Elab.async false
set_option linter.all false
set_option maxRecDepth 100000
set_option maxHeartbeats 2000000
/-! Wx, part 2: expressions over states by data; values alone. -/
namespace Wx
open PySem L2 Fx

/-- what is wanted of a result; of an exception: its class, its attributes -/
abbrev PD := D → Mem → Prop
abbrev PX := Addr → List (Str × D) → Mem → Prop
abbrev Tb := List (Addr × Str)
def KnD (K : PySem.W.Frag) (T : Tb) (l : Sl) (M : Mem) (σ : L2.St) (B H : Hp) (Qv : VK) (Q : PD) : Prop :=
  ∀ v d M' B' H', Go M B H M' B' H' → StR K T l M' σ B' H' → Rp K B' d v → Q d M' → Qv v H'
def KnL (K : PySem.W.Frag) (T : Tb) (l : Sl) (M : Mem) (σ : L2.St) (B H : Hp) (Qv : List V → Hp → Prop) (Q : List D → Mem → Prop) : Prop :=
  ∀ v d M' B' H', Go M B H M' B' H' → StR K T l M' σ B' H' → RpL K B' d v → Q d M' → Qv v H'
def KnB (K : PySem.W.Frag) (T : Tb) (l : Sl) (M : Mem) (σ : L2.St) (B H : Hp) (Qv : Bool → Hp → Prop) (Q : Bool → Mem → Prop) : Prop :=
  ∀ b M' B' H', Go M B H M' B' H' → StR K T l M' σ B' H' → Q b M' → Qv b H'
def KnX (K : PySem.W.Frag) (T : Tb) (l : Sl) (M : Mem) (σ : L2.St) (B H : Hp) (W : WX) (E : PX) : Prop :=
  ∀ C fs M' B' H' dx gs, Go M B H M' B' H' → StR K T l M' σ B' H' → H' dx = some (.xd gs) → RpF K B' fs gs → E C fs M' → W (.ref C) (some dx) σ H'
section
variable {K : PySem.W.Frag} {T : Tb} {l : Sl} {M M1 : Mem} {σ : L2.St} {B H B1 H1 : Hp} {Qv : VK} {W : WX} {E E' : PX} {Q Q' : PD}
theorem KnD.step (k : KnD K T l M σ B H Qv Q) (g : Go M B H M1 B1 H1) : KnD K T l M1 σ B1 H1 Qv Q := fun v d M' B' H' g' S r q => k v d M' B' H' (g.trans g') S r q
theorem KnX.step (k : KnX K T l M σ B H W E) (g : Go M B H M1 B1 H1) : KnX K T l M1 σ B1 H1 W E := fun C fs M' B' H' dx gs g' S h r q => k C fs M' B' H' dx gs (g.trans g') S h r q
theorem KnL.step {Qv : List V → Hp → Prop} {Q : List D → Mem → Prop} (k : KnL K T l M σ B H Qv Q) (g : Go M B H M1 B1 H1) : KnL K T l M1 σ B1 H1 Qv Q := fun v d M' B' H' g' S r q => k v d M' B' H' (g.trans g') S r q
theorem KnB.step {Qv : Bool → Hp → Prop} {Q : Bool → Mem → Prop} (k : KnB K T l M σ B H Qv Q) (g : Go M B H M1 B1 H1) : KnB K T l M1 σ B1 H1 Qv Q := fun b M' B' H' g' S q => k b M' B' H' (g.trans g') S q
theorem KnX.imp (k : KnX K T l M σ B H W E) (h : ∀ C fs M', E' C fs M' → E C fs M') : KnX K T l M σ B H W E' := fun C fs M' B' H' dx gs g S hx r q => k C fs M' B' H' dx gs g S hx r (h C fs M' q)
end

/-- an expression: from slots l and things M to a result with Q, or an exception with E -/
def GE (X : Cx) (T : Tb) (e : Expr) (l : Sl) (M : Mem) (Q : PD) (E : PX) : Prop :=
  ∀ σ B H, StR X.K T l M σ B H → ∀ Qv W, Takes X W → KnD X.K T l M σ B H Qv Q → KnX X.K T l M σ B H W E → RE X e σ H Qv
def GL (X : Cx) (T : Tb) (es : List Expr) (l : Sl) (M : Mem) (Q : List D → Mem → Prop) (E : PX) : Prop :=
  ∀ σ B H, StR X.K T l M σ B H → ∀ Qv W, Takes X W → KnL X.K T l M σ B H Qv Q → KnX X.K T l M σ B H W E → RA X es σ H Qv
def GT (X : Cx) (T : Tb) (e : Expr) (l : Sl) (M : Mem) (Q : Bool → Mem → Prop) (E : PX) : Prop :=
  ∀ σ B H, StR X.K T l M σ B H → ∀ Qv W, Takes X W → KnB X.K T l M σ B H Qv Q → KnX X.K T l M σ B H W E → RT X e σ H Qv
/-- .. whatever the whole is -/
def GW (X : Cx) (T : Tb) (e : Expr) (l : Sl) (M : Mem) (Q : Bool → Mem → Prop) (E : PX) : Prop :=
  ∀ σ B H, StR X.K T l M σ B H → ∀ Qv W, Takes X W → KnB X.K T l M σ B H Qv Q → KnX X.K T l M σ B H W E → RW X e σ H Qv
section
variable {X : Cx} {T : Tb} {e a b c : Expr} {es : List Expr} {l : Sl} {M : Mem} {Q Q' : PD} {E E' : PX}
theorem GE.imp (h : GE X T e l M Q E) (q : ∀ d M', Q d M' → Q' d M') (x : ∀ C fs M', E C fs M' → E' C fs M' := by exact fun _ _ _ z => z) : GE X T e l M Q' E' := fun σ B H S Qv W tk kn kx =>
  h σ B H S Qv W tk (fun v d M' B' H' g S' r z => kn v d M' B' H' g S' r (q d M' z)) (kx.imp x)
theorem GL.imp {Q Q' : List D → Mem → Prop} (h : GL X T es l M Q E) (q : ∀ d M', Q d M' → Q' d M') : GL X T es l M Q' E := fun σ B H S Qv W tk kn kx =>
  h σ B H S Qv W tk (fun v d M' B' H' g S' r z => kn v d M' B' H' g S' r (q d M' z)) kx
theorem GT.imp {Q Q' : Bool → Mem → Prop} (h : GT X T e l M Q E) (q : ∀ d M', Q d M' → Q' d M') : GT X T e l M Q' E := fun σ B H S Qv W tk kn kx =>
  h σ B H S Qv W tk (fun b M' B' H' g S' z => kn b M' B' H' g S' (q b M' z)) kx
theorem GW.gt {Q : Bool → Mem → Prop} (h : GW X T e l M Q E) : GT X T e l M Q E := fun σ B H S Qv W tk kn kx pins s I => h σ B H S Qv W tk kn kx _ pins s I
/-- from what stands in the base -/
theorem GE.ofEN {P : D → Prop} (h : ∀ σ B, SdR X.K B l σ → EN X e σ B P) (q : ∀ d, P d → Q d M) : GE X T e l M Q E := fun σ B H S Qv W tk kn kx =>
  h σ B S.sl B H (Ex.refl B) S.ex Qv fun v d B' H' s p r => by
    obtain ⟨g, S'⟩ := S.step s
    exact kn v d M _ H' g S' (rpN nt_ex r) (q d p)

/-! ### values alone -/
def D.scalar : D → Bool
  | .non | .bl _ | .int _ | .str _ | .ty _ | .ref _ => true
  | _ => false
theorem rp_scalar {K : PySem.W.Frag} {B B' : Hp} {d : D} {v : V} (h : D.scalar d = true) (r : Rp K B d v) : Rp K B' d v := by
  cases d <;> first | (simp only [Rp] at r ⊢; exact r) | cases h
/-- what is seen at d: one's own list or dict by what it holds -/
def vw (M : Mem) (d : D) : D := match d with
  | .ref p => match M.at p with
    | some (.lst ds) => .lst ds
    | some (.dK kvs) => .dic kvs
    | _ => .ref p
  | d => d
def isC (M : Mem) (d : D) : Bool := match d with
  | .ref p => match M.at p with
    | some (.lst _) => true
    | some (.dK _) => true
    | _ => false
  | _ => false
def anyC (M : Mem) (ds : List D) : Bool := ds.any (isC M)
theorem vw_same {M : Mem} {d : D} (h : isC M d = false) : vw M d = d := by
  unfold vw isC at *
  split
  · rename_i p
    simp only at h
    split at h
    · cases h
    · cases h
    · rename_i h1 h2
      rfl
  · rfl
/-- the base and one's own things -/
def bp (M : Mem) (B H : Hp) : Hp := fun a => if a ∈ M.ks then H a else B a
section
variable {K : PySem.W.Frag} {σ : L2.St} {B H : Hp}
theorem StR.bp_ex (S : StR K T l M σ B H) : Ex B (bp M B H) := fun a o h => by
  unfold bp
  split
  · rename_i hm
    obtain ⟨o', e⟩ := ks_at hm
    rw [(S.mm.at_ a o' e).1] at h; cases h
  · exact h
theorem StR.bp_bh (S : StR K T l M σ B H) : Ex (bp M B H) H := fun a o h => by
  unfold bp at h
  split at h
  · exact h
  · exact S.ex a o h
theorem StR.vw1 (S : StR K T l M σ B H) {d : D} {v : V} (r : Rp K B d v) : Rp K (bp M B H) (vw M d) v := by
  have r' := r.mono S.bp_ex
  have at_ : ∀ p o, M.at p = some o → bp M B H p = H p := fun p o h => if_pos (at_ks h)
  unfold Wx.vw
  split
  · rename_i p
    split
    · rename_i ds e
      obtain ⟨_, vs, h1, h2⟩ := S.mm.at_ p _ e
      rw [Rp.lst]
      exact ⟨p, vs, by simpa only [Rp] using r, (at_ p _ e).trans h1, h2.mono S.bp_ex⟩
    · rename_i ds e
      obtain ⟨_, vs, h1, h2⟩ := S.mm.at_ p _ e
      simp only [Rp]
      exact ⟨p, vs, by simpa only [Rp] using r, .inl ((at_ p _ e).trans h1), h2.mono S.bp_ex⟩
    · exact r'
  · exact r'
end
theorem StR.vwL {K : PySem.W.Frag} {σ : L2.St} {B H : Hp} (S : StR K T l M σ B H) : ∀ {ds : List D} {vs : List V}, RpL K B ds vs → RpL K (bp M B H) (ds.map (vw M)) vs
  | [], vs, r => by simpa only [List.map_nil, RpL] using r
  | d :: ds, vs, r => by
    simp only [List.map_cons, RpL] at r ⊢
    obtain ⟨v, t, e, h1, h2⟩ := r
    exact ⟨v, t, e, S.vw1 h1, S.vwL h2⟩
/-- a result of a look at one's own things is plain -/
def vq (M : Mem) (ds : List D) (Q : PD) (d : D) : Prop := (anyC M ds = true → D.scalar d = true) ∧ Q d M
/-- two values, an operation -/
def OM (X : Cx) (T : Tb) (f : Value → Value → Sem Value) (x y : D) (l : Sl) (M : Mem) (Q : PD) (E : PX) : Prop :=
  ∀ pins s σ B H v u vv uu, Inv X pins σ H s → StR X.K T l M σ B H → Rp X.K B x v → Rp X.K B y u → RelV v vv → RelV u uu → ∀ Qv W, Takes X W → KnD X.K T l M σ B H Qv Q → KnX X.K T l M σ B H W E →
    wpAny (model X.prog X.w) X.A (f vv uu) (EP X pins σ Qv) X.xe s
/-- a call of a known value, here or a little deeper -/
def CV (X : Cx) (T : Tb) (A : Around) (f : Value) (ds : List D) (l : Sl) (M : Mem) (Q : PD) (E : PX) : Prop :=
  ∀ pins s σ B H vs us, Inv X pins σ H s → StR X.K T l M σ B H → RpL X.K B ds vs → Vals vs us → ∀ Qv W, Takes X W → KnD X.K T l M σ B H Qv Q → KnX X.K T l M σ B H W E →
    wpAny (model X.prog X.w) A (call f us) (EP X pins σ Qv) X.xe s
theorem OM.imp {f : Value → Value → Sem Value} {x y : D} (h : OM X T f x y l M Q E) (q : ∀ d M', Q d M' → Q' d M') : OM X T f x y l M Q' E := fun pins s σ B H v u vv uu I S rx ry rv ru Qv W tk kn kx =>
  h pins s σ B H v u vv uu I S rx ry rv ru Qv W tk (fun v d M' B' H' g S' r z => kn v d M' B' H' g S' r (q d M' z)) kx
theorem CV.imp {A : Around} {f : Value} {ds : List D} (h : CV X T A f ds l M Q E) (q : ∀ d M', Q d M' → Q' d M') : CV X T A f ds l M Q' E := fun pins s σ B H vs us I S r rv Qv W tk kn kx =>
  h pins s σ B H vs us I S r rv Qv W tk (fun v d M' B' H' g S' r z => kn v d M' B' H' g S' r (q d M' z)) kx
/-- how a step over the base and one's own things is one over the base -/
theorem vq_end {K : PySem.W.Frag} {σ : L2.St} {B H B' H' : Hp} {ds : List D} {z : V} {d : D} {Qv : VK} (S : StR K T l M σ B H) (kn : KnD K T l M σ B H Qv Q) (h : anyC M ds = true)
    (s : Step (bp M B H) H B' H') (r : Rp K B' d z) (q : vq M ds Q d) : Qv z H' := by
  obtain ⟨g, S'⟩ := S.stepH s.h
  exact kn z d M B H' g S' (rp_scalar (q.1 h) r) q.2
theorem OM.of {f : Value → Value → Sem Value} {x y : D} {P : D → Prop} (o : OD X f (vw M x) (vw M y) P) (q : ∀ d, P d → vq M [x, y] Q d) : OM X T f x y l M Q E := fun pins s σ B H v u vv uu I S rx ry rv ru Qv W tk kn kx => by
  cases h : anyC M [x, y] with
  | true => exact run_op o I S.bp_bh (S.vw1 rx) (S.vw1 ry) rv ru fun z d B' H' st p r => vq_end S kn h st r (q d p)
  | false =>
    have h1 : isC M x = false ∧ isC M y = false := by
      unfold anyC at h
      simpa using h
    rw [vw_same h1.1, vw_same h1.2] at o
    refine run_op o I S.ex rx ry rv ru fun z d B' H' st p r => ?_
    obtain ⟨g, S'⟩ := S.step st
    exact kn z d M _ H' g S' (rpN nt_ex r) (q d p).2
theorem CV.of {f : Value} {ds : List D} {P : D → Prop} (o : CD X f (ds.map (vw M)) P) (q : ∀ d, P d → vq M ds Q d) : CV X T X.A f ds l M Q E := fun pins s σ B H vs us I S r rv Qv W tk kn kx => by
  obtain ⟨R, hR, k⟩ := o
  cases h : anyC M ds with
  | true => exact hR pins s σ H vs us Qv I rv (k vs _ H Qv S.bp_bh (S.vwL r) fun z d B' H' st p r => vq_end S kn h st r (q d p))
  | false =>
    have h1 : ds.map (vw M) = ds := by
      unfold anyC at h
      rw [List.any_eq_false] at h
      exact (List.map_congr_left fun d hd => vw_same (by simpa using h d hd)).trans (List.map_id' ds)
    rw [h1] at k
    refine hR pins s σ H vs us Qv I rv (k vs B H Qv S.ex r fun z d B' H' st p r => ?_)
    obtain ⟨g, S'⟩ := S.step st
    exact kn z d M _ H' g S' (rpN nt_ex r) (q d p).2
/-- .. that gives a new list (or such) -/
theorem CV.ofF {f : Value} {ds : List D} {P : List D → Prop} (o : CDF X f ds P) (q : ∀ d, P d → Q (.lst d) M) : CV X T X.A f ds l M Q E := fun pins s σ B H vs us I S r rv Qv W tk kn kx => by
  obtain ⟨R, hR, k⟩ := o
  refine hR pins s σ H vs us Qv I rv (k vs B H Qv S.ex r fun p es ws B' H' st h0 h1 h2 pe re => ?_)
  obtain ⟨g, S'⟩ := S.step (st.share h0 h1 h2)
  exact kn _ (.lst es) M _ H' g S' (rpN nt_ex (Rp.lst.mpr ⟨p, ws, rfl, upd_same, re.mono (Ex.new h1)⟩)) (q es pe)

/-! ### names, constants -/
variable {pos : Pos} {x : Str}
theorem ge_var {i : Nat} {d : D} (hl : l[i]? = some (some d)) (q : Q d M) (hN : X.N[i]? = some x) (hv : Vis X.env.scope x) (hd : (x == ("__debug__" : Str)) = false) (hcd : (x == ("__classdict__" : Str)) = false) : GE X T (.Name x pos) l M Q E := fun σ B H S Qv W tk kn kx => by
  obtain ⟨v, h1, h2⟩ := S.sl.at_ i d hl
  exact RE.of (pe_var hN hv hd hcd) ⟨v, h1, kn v d M B H Go.refl S h2 q⟩
theorem ge_glob {v : V} {d : D} {u : Value} (hm : X.mg x = some u) (r : RelV v u) (hd : Rp X.K (fun _ => none) d v) (q : Q d M) (hg : Gl X x) (hdb : (x == ("__debug__" : Str)) = false) : GE X T (.Name x pos) l M Q E :=
  GE.ofEN (fun σ B _ => en_glob hm r hd hg hdb) fun d' e => e ▸ q

/-! ### lists of arguments -/
theorem gl_nil {Q : List D → Mem → Prop} (q : Q [] M) : GL X T [] l M Q E := fun σ B H S Qv W tk kn kx => RA.of pa_nil (kn [] [] M B H Go.refl S RpL.nil q)
theorem gl_cons {Q : List D → Mem → Prop} (h : GE X T e l M (fun d M1 => GL X T es l M1 (fun ds M2 => Q (d :: ds) M2) E) E) (hs : starEach (e :: es) X.env = (false, eval e X.env) :: starEach es X.env) : GL X T (e :: es) l M Q E := fun σ B H S Qv W tk kn kx =>
  RA.of (pa_cons cE cA hs) (h σ B H S _ W tk (fun v d M1 B1 H1 g S1 r q => q σ B1 H1 S1 _ W tk (fun vs ds M2 B2 H2 g2 S2 r2 q2 => kn (v :: vs) (d :: ds) M2 B2 H2 (g.trans g2) S2 (RpL.cons (r.mono g2.b) r2) q2) (kx.step g)) kx)

/-! ### operations -/
theorem ge_bin {op : Operator} (h : GE X T a l M (fun x M1 => GE X T b l M1 (fun y M2 => OM X T (binaryOp op) x y l M2 Q E) E) E) : GE X T (.BinOp a op b pos) l M Q E := fun σ B H S Qv W tk kn kx pins s I =>
  wpAny_BinOp (binT (cE (X := X) (e := a)) (cE (X := X) (e := b)) (R := fun v u H2 => ∃ x y M2 B2, Go M B H M2 B2 H2 ∧ StR X.K T l M2 σ B2 H2 ∧ Rp X.K B2 x v ∧ Rp X.K B2 y u ∧ OM X T (binaryOp op) x y l M2 Q E) I
    (h σ B H S _ W tk (fun v x M1 B1 H1 g S1 r q => q σ B1 H1 S1 _ W tk (fun u y M2 B2 H2 g2 S2 r2 q2 => ⟨x, y, M2, B2, g.trans g2, S2, r.mono g2.b, r2, q2⟩) (kx.step g)) kx)
    fun v u s2 x y H2 I2 rx ry ⟨d1, d2, M2, B2, g, S2, r1, r2, o⟩ => o pins s2 σ B2 H2 x y v u I2 S2 r1 r2 rx ry Qv W tk (kn.step g) (kx.step g))
theorem ge_cmp {op : CmpOp} (h : GE X T a l M (fun x M1 => GE X T b l M1 (fun y M2 => OM X T (compareOp op) x y l M2 Q E) E) E) (hm : behindInMarks op b = false) : GE X T (.Compare a [op] [b] pos) l M Q E := fun σ B H S Qv W tk kn kx pins s I =>
  wpAny_Compare1 (binT (cE (X := X) (e := a)) (cE (X := X) (e := b)) (R := fun v u H2 => ∃ x y M2 B2, Go M B H M2 B2 H2 ∧ StR X.K T l M2 σ B2 H2 ∧ Rp X.K B2 x v ∧ Rp X.K B2 y u ∧ OM X T (compareOp op) x y l M2 Q E) I
    (h σ B H S _ W tk (fun v x M1 B1 H1 g S1 r q => q σ B1 H1 S1 _ W tk (fun u y M2 B2 H2 g2 S2 r2 q2 => ⟨x, y, M2, B2, g.trans g2, S2, r.mono g2.b, r2, q2⟩) (kx.step g)) kx)
    fun v u s2 x y H2 I2 rx ry ⟨d1, d2, M2, B2, g, S2, r1, r2, o⟩ => o pins s2 σ B2 H2 x y v u I2 S2 r1 r2 rx ry Qv W tk (kn.step g) (kx.step g)) hm
/-- a truth value as a test -/
def kB (Q : Bool → Mem → Prop) : PD := fun d M => ∃ b, d = .bl b ∧ Q b M
theorem gt_cmp {op : CmpOp} {Q : Bool → Mem → Prop} (h : GE X T a l M (fun x M1 => GE X T b l M1 (fun y M2 => OM X T (compareOp op) x y l M2 (kB Q) E) E) E) (hm : behindInMarks op b = false) : GW X T (.Compare a [op] [b] pos) l M Q E := fun σ B H S Qv W tk kn kx whole pins s I => by
  refine wpAny_isTrue_Compare1 (thn (h σ B H S _ W tk (fun v x M1 B1 H1 g S1 r q => q σ B1 H1 S1 (fun u H2 => ∃ x y M2 B2 v', v' = v ∧ Go M B H M2 B2 H2 ∧ StR X.K T l M2 σ B2 H2 ∧ Rp X.K B2 x v ∧ Rp X.K B2 y u ∧ OM X T (compareOp op) x y l M2 (kB Q) E) W tk (fun u y M2 B2 H2 g2 S2 r2 q2 => ⟨x, y, M2, B2, v, rfl, g.trans g2, S2, r.mono g2.b, r2, q2⟩) (kx.step g)) kx pins s I) fun v s1 ⟨x, H1, I1, r1, q1⟩ => thn (q1 pins s1 I1) fun u s2 ⟨y, H2, I2, r2, d1, d2, M2, B2, v', ev, g, S2, rx, ry, o⟩ => ?_) hm
  refine thn (o pins s2 σ B2 H2 x y v u I2 S2 rx ry r1 r2 (fun z H3 => ∃ c, z = V.bl c ∧ Qv c H3) W tk (fun z d M3 B3 H3 g3 S3 r3 ⟨c, e, q⟩ => by
    subst e
    exact ⟨c, Rp.bl.mp r3, kn c M3 B3 H3 (g.trans g3) S3 q⟩) (kx.step g)) fun w s3 ⟨z, H3, I3, r3, c, e, q⟩ => ?_
  subst e
  cases r3
  exact wpAny_truthy_bool ⟨H3, I3, q⟩
/-- an expression with a truth value as a test -/
theorem gt_val {Q : Bool → Mem → Prop} (h : GE X T e l M (kB Q) E) (he : ∀ whole, isTrue e X.env whole = (do let v ← whole; standAt e.pos; holding [v] (truthy v))) : GT X T e l M Q E := fun σ B H S Qv W tk kn kx pins s I => by
  refine PyProof.Rows.isTrue_plain (thn (h σ B H S (fun z H3 => ∃ c, z = V.bl c ∧ Qv c H3) W tk (fun z d M3 B3 H3 g3 S3 r3 ⟨c, e, q⟩ => by
    subst e
    exact ⟨c, Rp.bl.mp r3, kn c M3 B3 H3 g3 S3 q⟩) kx pins s I) fun v s1 ⟨x, H1, I1, r1, c, e, q⟩ => ?_) (he _)
  subst e
  cases r1
  exact wpAny_truthy_bool ⟨H1, I1, q⟩
theorem gt_not {Q : Bool → Mem → Prop} (h : GT X T a l M (fun t M1 => Q (!t) M1) E) : GT X T (.UnaryOp .Not a pos) l M Q E := fun σ B H S Qv W tk kn kx =>
  RT.of (pt_not cT) (h σ B H S _ W tk (fun b M' B' H' g S' q => kn (!b) M' B' H' g S' q) kx)
theorem gw_and1 {Q : Bool → Mem → Prop} (h : GT X T a l M Q E) : GW X T (.BoolOp .And [a] pos) l M Q E := fun σ B H S Qv W tk kn kx wh pins s I => (pw_and1 cT).run wh pins s σ H Qv I (h σ B H S Qv W tk kn kx)
theorem gw_or1 {Q : Bool → Mem → Prop} (h : GT X T a l M Q E) : GW X T (.BoolOp .Or [a] pos) l M Q E := fun σ B H S Qv W tk kn kx wh pins s I => (pw_or1 cT).run wh pins s σ H Qv I (h σ B H S Qv W tk kn kx)
variable {rest : List Expr}
theorem gw_and {Q : Bool → Mem → Prop} (h : GT X T a l M (fun t M1 => (t = true → GW X T (.BoolOp .And (b :: rest) pos) l M1 Q E) ∧ (t = false → Q false M1)) E) : GW X T (.BoolOp .And (a :: b :: rest) pos) l M Q E := fun σ B H S Qv W tk kn kx wh pins s I =>
  (pw_and cT cW).run wh pins s σ H Qv I (h σ B H S _ W tk (fun t M1 B1 H1 g S1 q => by
    cases t with
    | true => exact iteT (q.1 rfl σ B1 H1 S1 Qv W tk (kn.step g) (kx.step g))
    | false => exact iteF (kn false M1 B1 H1 g S1 (q.2 rfl))) kx)
theorem gw_or {Q : Bool → Mem → Prop} (h : GT X T a l M (fun t M1 => (t = false → GW X T (.BoolOp .Or (b :: rest) pos) l M1 Q E) ∧ (t = true → Q true M1)) E) : GW X T (.BoolOp .Or (a :: b :: rest) pos) l M Q E := fun σ B H S Qv W tk kn kx wh pins s I =>
  (pw_or cT cW).run wh pins s σ H Qv I (h σ B H S _ W tk (fun t M1 B1 H1 g S1 q => by
    cases t with
    | false => exact iteF (q.1 rfl σ B1 H1 S1 Qv W tk (kn.step g) (kx.step g))
    | true => exact iteT (kn true M1 B1 H1 g S1 (q.2 rfl))) kx)
/-- and, or as values: truth values -/
theorem ge_one {op : BoolOp} (h : GE X T a l M Q E) : GE X T (.BoolOp op [a] pos) l M Q E := fun σ B H S Qv W tk kn kx => RE.of (pe_one cE) (h σ B H S Qv W tk kn kx)
theorem ge_and (h : GE X T a l M (kB fun t M1 => (t = true → GE X T (.BoolOp .And (b :: rest) pos) l M1 Q E) ∧ (t = false → Q (.bl false) M1)) E) : GE X T (.BoolOp .And (a :: b :: rest) pos) l M Q E := fun σ B H S Qv W tk kn kx =>
  RE.of (pe_and cE cE) (h σ B H S _ W tk (fun v d M1 B1 H1 g S1 r ⟨t, e, q⟩ => by
    subst e
    refine ⟨t, Rp.bl.mp r, ?_⟩
    cases t with
    | true => exact iteT (q.1 rfl σ B1 H1 S1 Qv W tk (kn.step g) (kx.step g))
    | false => exact iteF (kn _ _ M1 B1 H1 g S1 (Rp.bl.mpr rfl) (q.2 rfl))) kx)
theorem ge_or (h : GE X T a l M (kB fun t M1 => (t = false → GE X T (.BoolOp .Or (b :: rest) pos) l M1 Q E) ∧ (t = true → Q (.bl true) M1)) E) : GE X T (.BoolOp .Or (a :: b :: rest) pos) l M Q E := fun σ B H S Qv W tk kn kx =>
  RE.of (pe_or cE cE) (h σ B H S _ W tk (fun v d M1 B1 H1 g S1 r ⟨t, e, q⟩ => by
    subst e
    refine ⟨t, Rp.bl.mp r, ?_⟩
    cases t with
    | false => exact iteF (q.1 rfl σ B1 H1 S1 Qv W tk (kn.step g) (kx.step g))
    | true => exact iteT (kn _ _ M1 B1 H1 g S1 (Rp.bl.mpr rfl) (q.2 rfl))) kx)
theorem ge_not (h : GE X T a l M (kB fun t M1 => Q (.bl (!t)) M1) E) : GE X T (.UnaryOp .Not a pos) l M Q E := fun σ B H S Qv W tk kn kx =>
  RE.of (pe_not cE) (h σ B H S _ W tk (fun v d M1 B1 H1 g S1 r ⟨t, e, q⟩ => by
    subst e
    exact ⟨t, Rp.bl.mp r, kn _ _ M1 B1 H1 g S1 (Rp.bl.mpr rfl) q⟩) kx)
theorem ge_if (h : GT X T c l M (fun t M1 => (t = true → GE X T a l M1 Q E) ∧ (t = false → GE X T b l M1 Q E)) E) : GE X T (.IfExp c a b pos) l M Q E := fun σ B H S Qv W tk kn kx =>
  RE.of (pe_ifExp cT cE cE) (h σ B H S _ W tk (fun t M1 B1 H1 g S1 q => by
    cases t with
    | true => exact iteT (q.1 rfl σ B1 H1 S1 Qv W tk (kn.step g) (kx.step g))
    | false => exact iteF (q.2 rfl σ B1 H1 S1 Qv W tk (kn.step g) (kx.step g))) kx)
/-! ### displays -/
variable {k0 : Nat}
theorem ge_lst {es : List Expr} (h : GL X T es l M (fun ds M1 => ds.length ≤ sizeLine ∧ Q (.lst ds) M1) E) : GE X T (.List es pos) l M Q E := fun σ B H S Qv W tk kn kx =>
  RE.of (pe_lst cA) (h σ B H S _ W tk (fun vs ds M1 B1 H1 g S1 r q => ⟨by rw [← r.length]; exact q.1, fun p hp => by
    obtain ⟨g2, S2⟩ := S1.step (Step.alloc (o := .lst vs) S1.ex hp)
    exact kn _ _ M1 _ _ (g.trans g2) S2 (rpN nt_ex (Rp.lst.mpr ⟨p, vs, rfl, upd_same, r.mono (Ex.new (S1.ex.back hp))⟩)) q.2⟩) kx)
theorem ge_tup {es : List Expr} (h : GL X T es l M (fun ds M1 => ds.length ≤ sizeLine ∧ Q (.tup ds) M1) E) : GE X T (.Tuple es k0 pos) l M Q E := fun σ B H S Qv W tk kn kx =>
  RE.of (pe_tup cA) (h σ B H S _ W tk (fun vs ds M1 B1 H1 g S1 r q => ⟨by rw [← r.length]; exact q.1, fun p hp => by
    obtain ⟨g2, S2⟩ := S1.step (Step.alloc (o := .tup vs) S1.ex hp)
    exact kn _ _ M1 _ _ (g.trans g2) S2 (rpN nt_ex (Rp.tup.mpr ⟨p, vs, rfl, SqT.of upd_same, r.mono (Ex.new (S1.ex.back hp))⟩)) q.2⟩) kx)
end
end Wx
set_option Elab.async false
set_option linter.all false
set_option maxRecDepth 100000
set_option maxHeartbeats 2000000
/-! Wx, part 3: resolved expressions, what they ask. -/
namespace Wx
open PySem L2 Fx PySem.Spec PyProof.Rows

/-- what all contexts of a body have alike -/
structure Co where
  prog : Program
  w : World
  K : PySem.W.Frag
  mg : Str → Option Value
  base : Heap
  A : Around
def cof (X : Cx) : Co := ⟨X.prog, X.w, X.K, X.mg, X.base, X.A⟩

/-! ### questions by values -/
def OC (Y : Co) (T : Tb) (f : Value → Value → Sem Value) (x y : D) (M : Mem) (Q : PD) (E : PX) : Prop := ∀ X l, cof X = Y → X.calm = true → OM X T f x y l M Q E
def CC (Y : Co) (T : Tb) (f : Value) (ds : List D) (M : Mem) (Q : PD) (E : PX) : Prop := ∀ X l, cof X = Y → X.calm = true → CV X T X.A f ds l M Q E
/-- one value, an operation -/
def UM (X : Cx) (T : Tb) (f : Value → Sem Value) (x : D) (l : Sl) (M : Mem) (Q : PD) (E : PX) : Prop :=
  ∀ pins s σ B H v vv, Inv X pins σ H s → StR X.K T l M σ B H → Rp X.K B x v → RelV v vv → ∀ Qv W, Takes X W → KnD X.K T l M σ B H Qv Q → KnX X.K T l M σ B H W E →
    wpAny (model X.prog X.w) X.A (f vv) (EP X pins σ Qv) X.xe s
def UC (Y : Co) (T : Tb) (f : Value → Sem Value) (x : D) (M : Mem) (Q : PD) (E : PX) : Prop := ∀ X l, cof X = Y → X.calm = true → UM X T f x l M Q E
/-- a subscript -/
def XM (X : Cx) (T : Tb) (x y : D) (l : Sl) (M : Mem) (Q : PD) (E : PX) : Prop :=
  ∀ (value slice : Expr) pins s σ B H v u vv uu, Inv X pins σ H s → StR X.K T l M σ B H → Rp X.K B x v → Rp X.K B y u → RelV v vv → RelV u uu → ∀ Qv W, Takes X W → KnD X.K T l M σ B H Qv Q → KnX X.K T l M σ B H W E →
    subscripted slice false vv uu = operate [vv, uu] (getItem vv uu) → wpAny (model X.prog X.w) X.A (subscriptTail value slice vv uu) (EP X pins σ Qv) X.xe s
def XC (Y : Co) (T : Tb) (x y : D) (M : Mem) (Q : PD) (E : PX) : Prop := ∀ X l, cof X = Y → X.calm = true → XM X T x y l M Q E
/-- a part: x[lo:hi] -/
def PM (X : Cx) (T : Tb) (x : D) (lo hi : Option Int) (l : Sl) (M : Mem) (Q : PD) (E : PX) : Prop :=
  ∀ pins s σ B H v vv (vl vu : Value) (sl : Addr), Inv X pins σ H s → StR X.K T l M σ B H → Rp X.K B x v → RelV v vv → s.heap.IsSliceOf sl vl vu .none → IsPart vl lo → IsPart vu hi → ∀ Qv W, Takes X W → KnD X.K T l M σ B H Qv Q → KnX X.K T l M σ B H W E →
    ∃ T id, typeLookup (.type T) "__getitem__" = pure (some (.builtin id)) ∧ s.TypeIs vv T ∧ wpAny (model X.prog X.w) X.A (getItem vv (.ref sl)) (EP X pins σ Qv) X.xe s
def PC' (Y : Co) (T : Tb) (x : D) (lo hi : Option Int) (M : Mem) (Q : PD) (E : PX) : Prop := ∀ X l, cof X = Y → X.calm = true → PM X T x lo hi l M Q E
/-- x's method m is the def at f -/
def MtOk (K : PySem.W.Frag) (x : D) (M : Mem) (m : Str) (f : Addr) : Prop :=
  (∃ C fs, x = .obj C fs ∧ Cls K C ∧ Meth K C m f ∧ fs.lookup m = none) ∨ (∃ p C fs, x = .ref p ∧ M.at p = some (.ins C fs) ∧ Cls K C ∧ Meth K C m f ∧ fs.lookup m = none)
/-- a built-in type's method: the receiver is seen by vw -/
def BM (X : Cx) (T : Tb) (id : String) (x : D) (ds : List D) (l : Sl) (M : Mem) (Q : PD) (E : PX) : Prop :=
  ∀ pins s σ B H v vv vs us, Inv X pins σ H s → StR X.K T l M σ B H → Rp X.K B x v → RelV v vv → RpL X.K B ds vs → Vals vs us → ∀ Qv W, Takes X W → KnD X.K T l M σ B H Qv Q → KnX X.K T l M σ B H W E →
    wpAny (model X.prog X.w) X.A (call (.builtin id) (vv :: us)) (EP X pins σ Qv) X.xe s
def BC (Y : Co) (T : Tb) (id : String) (x : D) (ds : List D) (M : Mem) (Q : PD) (E : PX) : Prop := ∀ X l, cof X = Y → X.calm = true → BM X T id x ds l M Q E
/-- the built-in type t has the method name -/
structure MbOk (t : String) (name : Str) (id : String) : Prop where
  pa : PlainAttrs t
  slot : Slot t name id
  ty : typeOf (.builtin id) = pure (.type "method_descriptor")
/-- of which built-in type a value is -/
def KdM (M : Mem) (d : D) : String → Prop := fun t => match vw M d with
  | .str _ => t = "str"
  | .int _ => t = "int"
  | .lst _ => t = "list"
  | .dic _ => t = "dict" ∧ ∃ p, d = .ref p
  | .ref p => t = "dict" ∧ ∃ kvs, M.at p = some (.dT kvs)
  | _ => False
theorem KdM.ty {K : PySem.W.Frag} {T : Tb} {l : Sl} {M : Mem} {σ : L2.St} {B H : Hp} {d : D} {t : String} {v : V} (S : StR K T l M σ B H) (h : KdM M d t) (r : Rp K B d v) : tyV K t v H := by
  have r1 := (S.vw1 r).mono S.bp_bh
  unfold KdM at h
  cases e : vw M d with
  | str z => rw [e] at h r1; cases Rp.str.mp r1; exact h
  | int z => rw [e] at h r1; cases Rp.int.mp r1; exact h
  | lst ds =>
    rw [e] at h r1
    obtain ⟨a, xs, rfl, h1, _⟩ := Rp.lst.mp r1
    exact .inl ⟨h, xs, SqL.of h1⟩
  | dic kvs =>
    rw [e] at h
    obtain ⟨h1, p, rfl⟩ := h
    dsimp only [vw] at e
    cases e2 : M.at p with
    | none => rw [e2] at e; cases e
    | some o =>
      rw [e2] at e
      cases o with
      | lst _ => cases e
      | dT _ => cases e
      | ins _ _ => cases e
      | lam _ _ _ => cases e
      | dK kv =>
        obtain ⟨_, xs, h2, _⟩ := S.mm.at_ p _ e2
        have : v = .ref p := by simpa only [Rp] using r
        subst this
        exact .inr (.inr (.inl ⟨h1, .inl ⟨_, h2⟩⟩))
  | ref p =>
    rw [e] at h r1
    obtain ⟨h1, kvs, h2⟩ := h
    obtain ⟨_, xs, h3, _⟩ := S.mm.at_ p _ h2
    have : v = .ref p := by simpa only [Rp] using r1
    subst this
    exact .inr (.inr (.inl ⟨h1, .inr ⟨_, h3⟩⟩))
  | _ => rw [e] at h; exact h.elim
/-- o.f -/
def AM (X : Cx) (T : Tb) (f : Str) (x : D) (l : Sl) (M : Mem) (Q : PD) (E : PX) : Prop := UM X T (fun v => getAttr v f true) x l M Q E
def AC (Y : Co) (T : Tb) (f : Str) (x : D) (M : Mem) (Q : PD) (E : PX) : Prop := ∀ X l, cof X = Y → X.calm = true → AM X T f x l M Q E
/-- the global name x holds d -/
def GD (K : PySem.W.Frag) (mg : Str → Option Value) (x : Str) (d : D) : Prop := (∃ v u, mg x = some u ∧ RelV v u ∧ Rp K (fun _ => none) d v) ∨ (∃ n, mg x = none ∧ bootBuiltins x = some (.type n) ∧ x ≠ "__name__" ∧ d = .ty n)

/-- a call with keywords -/
def CVK (X : Cx) (T : Tb) (f : Value) (ds : List D) (ks : List Str) (zs : List D) (l : Sl) (M : Mem) (Q : PD) (E : PX) : Prop :=
  ∀ pins s σ B H vs us ws wvs, Inv X pins σ H s → StR X.K T l M σ B H → RpL X.K B ds vs → Vals vs us → RpL X.K B zs ws → Vals ws wvs → ∀ Qv W, Takes X W → KnD X.K T l M σ B H Qv Q → KnX X.K T l M σ B H W E →
    wpAny (model X.prog X.w) X.A (call f us (ks.zip wvs)) (EP X pins σ Qv) X.xe s
def CK (Y : Co) (T : Tb) (f : Value) (ds : List D) (ks : List Str) (zs : List D) (M : Mem) (Q : PD) (E : PX) : Prop := ∀ X l, cof X = Y → X.calm = true → CVK X T f ds ks zs l M Q E
/-- the data's type, one's own things told -/
def TyM (K : PySem.W.Frag) (M : Mem) (d : D) (t : Value) : Prop := match d with
  | .ref p => match M.at p with
    | some (.lst _) => t = .type "list"
    | some (.dK _) => t = .type "dict"
    | some (.dT _) => t = .type "dict"
    | some (.ins C _) => t = .ref C ∧ OwnTy K C
    | some (.lam _ _ _) => False
    | none => False
  | d => TyD K d t
/-- isinstance(x, (T1, ..)) -/
def IsT (K : PySem.W.Frag) (x : D) (ts : List D) (M : Mem) (Q : PD) : Prop :=
  ∃ t cs r, TyM K M x t ∧ PySem.W.kitAny K t cs = some r ∧ Paired (fun d c => (∃ n, d = .ty n ∧ c = .type n) ∨ (∃ C, d = .ref C ∧ c = .ref C)) ts cs ∧ Q (.bl r) M
/-- the static method m of the class named x is the def at g -/
def SmOk (K : PySem.W.Frag) (mg : Str → Option Value) (x m : Str) (g : Addr) : Prop := ∃ C mc q, mg x = some (.ref C) ∧ ClX.CRead K C mc ∧ SMet K C mc m q g

/-- an item's parts for so many targets -/
def partsOf (n : Nat) (d : D) : Option (List D) := match n with
  | 1 => some [d]
  | _ => match d with
    | .tup ds => if ds.length = n then some ds else none
    | _ => none
/-- what a body leans on: the callables by number; the def itself and its cells; the defs that call what they get; what the call of such a thing is; what a lambda's body reads -/
structure Gm where
  v : Nat → Value
  me : Me
  lamOk : Prop
  told : Nat → (Mem → PD → PX → Prop) → Addr → Mem → PD → PX → Prop
  act : Addr → Mem → PD → PX → Prop
  lc : IE → Sl → Mem → PD → PX → Prop
def PQ (Γ : Gm) : Sh → List D → Sl → Mem → PD → PX → Prop
  | .told _ i, ds, l, M, Q, E => ∃ p b sn, ds = [.ref p] ∧ M.at p = some (.lam Γ.me b sn) ∧ ∀ σ, Γ.told i (Γ.lc b l) p (M.put p (.lam Γ.me b (some (l, σ)))) (fun d M' => ∃ M2 : Mem, M2.Sublist M' ∧ Q d M2) E
  | .dicC kvs, _, _, M, Q, _ => Q (.dic kvs) M
  | .lrng, ds, _, M, Q, _ => ∃ n : Nat, ds = [.int (n : Int)] ∧ n ≤ 16777216 ∧ Q (.lst (upTo n)) M
  | .act i, _, l, M, Q, E => ∃ p, l[i]? = some (some (.ref p)) ∧ Γ.act p M Q E
def setAll : Sl → List Nat → List D → Sl
  | l, i :: is, d :: ds => setAll (l.set i (some d)) is ds
  | l, _, _ => l
def wipeS (l : Sl) : List Nat → Sl
  | [] => l
  | v :: vs => (wipeS l vs).set v none
section
variable (Y : Co) (T : Tb) (Γ : Gm)
mutual
def wE : IE → Sl → Mem → PD → PX → Prop
  | .v i, l, M, Q, _ => ∃ d, l[i]? = some (some d) ∧ Q d M
  | .int n, _, M, Q, _ => Q (.int n) M
  | .str z, _, M, Q, _ => Q (.str z) M
  | .bl b, _, M, Q, _ => Q (.bl b) M
  | .non, _, M, Q, _ => Q .non M
  | .gl x, _, M, Q, _ => ∃ d, GD Y.K Y.mg x d ∧ Q d M
  | .bin op a b, l, M, Q, E => wE a l M (fun x M1 => wE b l M1 (fun y M2 => OC Y T (binaryOp op) x y M2 Q E) E) E
  | .cmp op a b, l, M, Q, E => wE a l M (fun x M1 => wE b l M1 (fun y M2 => OC Y T (compareOp op) x y M2 Q E) E) E
  | .cm2 o o' a b c, l, M, Q, E => wE a l M (fun x M1 => wE b l M1 (fun y M2 => OC Y T (compareOp o) x y M2 (kB fun t M3 => (t = false → Q (.bl false) M3) ∧ (t = true → wE c l M3 (fun z M4 => OC Y T (compareOp o') y z M4 Q E) E)) E) E) E
  | .and es, l, M, Q, E => wAnd es l M Q E
  | .or es, l, M, Q, E => wOr es l M Q E
  | .not a, l, M, Q, E => wE a l M (kB fun t M1 => Q (.bl (!t)) M1) E
  | .un op a, l, M, Q, E => wE a l M (fun x M1 => UC Y T (unaryOp op) x M1 Q E) E
  | .ite c a b, l, M, Q, E => wT c l M (fun t M1 => (t = true → wE a l M1 Q E) ∧ (t = false → wE b l M1 Q E)) E
  | .lst es, l, M, Q, E => wA es l M (fun ds M1 => ds.length ≤ sizeLine ∧ Q (.lst ds) M1) E
  | .tup es, l, M, Q, E => wA es l M (fun ds M1 => ds.length ≤ sizeLine ∧ Q (.tup ds) M1) E
  | .dic0, l, M, Q, E => Q (.dic []) M
  | .ix a b, l, M, Q, E => wE a l M (fun x M1 => wE b l M1 (fun y M2 => XC Y T x y M2 Q E) E) E
  | .sl a lo hi, l, M, Q, E => wE a l M (fun x M1 => wO lo l M1 (fun i M2 => wO hi l M2 (fun j M3 => PC' Y T x i j M3 Q E) E) E) E
  | .rev a, l, M, Q, E => wE a l M (fun x M1 => ∃ ds, x = .lst ds ∧ Q (.lst ds.reverse) M1) E ∨ wE a l M (fun x M1 => ∃ ds, x = .tup ds ∧ Q (.tup ds.reverse) M1) E
  | .att a f, l, M, Q, E => wE a l M (fun x M1 => AC Y T f x M1 Q E) E
  | .cu _ i es, l, M, Q, E => wA es l M (fun ds M1 => CC Y T (Γ.v i) ds M1 Q E) E
  | .cb _ id es, l, M, Q, E => wA es l M (fun ds M1 => CC Y T (.builtin id) ds M1 Q E) E
  | .ct _ id es, l, M, Q, E => wA es l M (fun ds M1 => CC Y T (.type id) ds M1 Q E) E
  | .mu a m es, l, M, Q, E => wE a l M (fun x M1 => ∃ f, MtOk Y.K x M1 m f ∧ wA es l M1 (fun ds M2 => CC Y T (.ref f) (x :: ds) M2 Q E) E) E
  | .mb a m es, l, M, Q, E => wE a l M (fun x M1 => ∃ t id, MbOk t m id ∧ KdM M1 x t ∧ wA es l M1 (fun ds M2 => BC Y T id x ds M2 Q E) E) E
  | .isT a ts, l, M, Q, E => wE a l M (fun x M1 => wA ts l M1 (fun tys M2 => tys.length ≤ sizeLine ∧ IsT Y.K x tys M2 Q) E) E
  | .cuk _ i es ks vs, l, M, Q, E => wA es l M (fun ds M1 => wA vs l M1 (fun zs M2 => CK Y T (Γ.v i) ds ks zs M2 Q E) E) E
  | .muk a m es ks vs, l, M, Q, E => wE a l M (fun x M1 => ∃ f, MtOk Y.K x M1 m f ∧ wA es l M1 (fun ds M2 => wA vs l M2 (fun zs M3 => CK Y T (.ref f) (x :: ds) ks zs M3 Q E) E) E) E
  | .sm x m es, l, M, Q, E => ∃ g, SmOk Y.K Y.mg x m g ∧ wA es l M (fun ds M1 => CC Y T (.ref g) ds M1 Q E) E
  | .olst es, l, M, Q, E => wA es l M (fun ds M1 => ds.length ≤ sizeLine ∧ ∀ p, p ∉ M1.ks → Q (.ref p) ((p, .lst ds) :: M1)) E
  | .oli e, l, M, Q, E => wE e l M (fun d M1 => ∃ ds, (vw M1 d = .lst ds ∨ d = .tup ds) ∧ ∀ p, p ∉ M1.ks → Q (.ref p) ((p, .lst ds) :: M1)) E
  | .odic, _, M, Q, _ => ∀ p, p ∉ M.ks → Q (.ref p) ((p, .dK []) :: M)
  | .lam b, _, M, Q, _ => Γ.lamOk ∧ ∀ p, p ∉ M.ks → Q (.ref p) ((p, .lam Γ.me b none) :: M)
  | .pr s es, l, M, Q, E => wA es l M (fun ds M1 => PQ Γ s ds l M1 Q E) E
  | .lc elt tg it ifs own, l, M, Q, E => wI it l M (fun ds M1 => ds.length ≤ sizeLine ∧ ((∃ (t : Nat → D → Bool) (Pe : Nat → D → D → Prop),
      (∀ i d, ds[i]? = some d → ∃ ps, partsOf tg.length d = some ps ∧ wTs ifs (setAll (wipeS l (own.map (·.2))) tg ps) M1 (fun b M2 => M2 = M1 ∧ b = t i d) (fun _ _ _ => False) ∧
        (t i d = true → wE elt (setAll (wipeS l (own.map (·.2))) tg ps) M1 (fun e M2 => M2 = M1 ∧ Pe i d e) fun _ _ _ => False)) ∧
      ∀ es : List D, (∃ lo : List (Option D), lo.length = ds.length ∧ es = lo.filterMap id ∧ ∀ (i : Nat) (d : D), ds[i]? = some d → (t i d = false ∧ lo[i]? = some none) ∨ (t i d = true ∧ ∃ e, lo[i]? = some (some e) ∧ Pe i d e)) → Q (.lst es) M1) ∨
    ∃ I : Nat → List D → Mem → Prop, I 0 [] M1 ∧
      (∀ i d acc M2, ds[i]? = some d → I i acc M2 → ∃ ps, partsOf tg.length d = some ps ∧ wTs ifs (setAll (wipeS l (own.map (·.2))) tg ps) M2 (fun b M3 => (b = false → I (i + 1) acc M3) ∧
        (b = true → wE elt (setAll (wipeS l (own.map (·.2))) tg ps) M3 (fun e M4 => I (i + 1) (acc ++ [e]) M4) fun _ _ _ => False)) (fun _ _ _ => False)) ∧
      ∀ acc M2, I ds.length acc M2 → Q (.lst acc) M2)) E
def wA : List IE → Sl → Mem → (List D → Mem → Prop) → PX → Prop
  | [], _, M, Q, _ => Q [] M
  | e :: es, l, M, Q, E => wE e l M (fun d M1 => wA es l M1 (fun ds M2 => Q (d :: ds) M2) E) E
def wO : List IE → Sl → Mem → (Option Int → Mem → Prop) → PX → Prop
  | [], _, M, Q, _ => Q none M
  | e :: _, l, M, Q, E => wE e l M (fun d M1 => ∃ i, d = .int i ∧ Q (some i) M1) E
def wAnd : List IE → Sl → Mem → PD → PX → Prop
  | [], _, _, _, _ => False
  | [e], l, M, Q, E => wE e l M Q E
  | e :: es, l, M, Q, E => wE e l M (kB fun t M1 => (t = true → wAnd es l M1 Q E) ∧ (t = false → Q (.bl false) M1)) E
def wOr : List IE → Sl → Mem → PD → PX → Prop
  | [], _, _, _, _ => False
  | [e], l, M, Q, E => wE e l M Q E
  | e :: es, l, M, Q, E => wE e l M (kB fun t M1 => (t = false → wOr es l M1 Q E) ∧ (t = true → Q (.bl true) M1)) E
def wT : IE → Sl → Mem → (Bool → Mem → Prop) → PX → Prop
  | .not a, l, M, Q, E => wT a l M (fun t M1 => Q (!t) M1) E
  | .and es, l, M, Q, E => wTand es l M Q E
  | .or es, l, M, Q, E => wTor es l M Q E
  | .cmp op a b, l, M, Q, E => wE a l M (fun x M1 => wE b l M1 (fun y M2 => OC Y T (compareOp op) x y M2 (kB Q) E) E) E
  | .cm2 o o' a b c, l, M, Q, E => wE a l M (fun x M1 => wE b l M1 (fun y M2 => OC Y T (compareOp o) x y M2 (kB fun t M3 => (t = false → Q false M3) ∧ (t = true → wE c l M3 (fun z M4 => OC Y T (compareOp o') y z M4 (kB Q) E) E)) E) E) E
  | .ite _ _ _, _, _, _, _ => False
  | e, l, M, Q, E => wE e l M (kB Q) E
def wTand : List IE → Sl → Mem → (Bool → Mem → Prop) → PX → Prop
  | [], _, _, _, _ => False
  | [e], l, M, Q, E => wT e l M Q E
  | e :: es, l, M, Q, E => wT e l M (fun t M1 => (t = true → wTand es l M1 Q E) ∧ (t = false → Q false M1)) E
def wTor : List IE → Sl → Mem → (Bool → Mem → Prop) → PX → Prop
  | [], _, _, _, _ => False
  | [e], l, M, Q, E => wT e l M Q E
  | e :: es, l, M, Q, E => wT e l M (fun t M1 => (t = false → wTor es l M1 Q E) ∧ (t = true → Q true M1)) E
/-- the tests of a comprehension: none or one -/
def wTs : List IE → Sl → Mem → (Bool → Mem → Prop) → PX → Prop
  | [], _, M, Q, _ => Q true M
  | [e], l, M, Q, E => wT e l M Q E
  | _, _, _, _, _ => False
def wI : IT → Sl → Mem → (List D → Mem → Prop) → PX → Prop
  | .li e, l, M, Q, E => wE e l M (fun d M1 => ∃ ds, d = .lst ds ∧ Q ds M1) E ∨ wE e l M (fun d M1 => ∃ ds, d = .tup ds ∧ Q ds M1) E ∨ wE e l M (fun d M1 => ∃ z, d = .str z ∧ Q (Fx.signs z) M1) E
  | .ra e, l, M, Q, E => wE e l M (fun d M1 => ∃ n, d = .int n ∧ (-(2 ^ 62) ≤ n ∧ n < 2 ^ 62) ∧ Q (upTo n.toNat) M1) E
  | .en e, l, M, Q, E => wE e l M (fun d M1 => ∃ ds, d = .lst ds ∧ Q (enumD ds) M1) E ∨ wE e l M (fun d M1 => ∃ ds, d = .tup ds ∧ Q (enumD ds) M1) E
  | .zi a b, l, M, Q, E => wE a l M (fun d M1 => wE b l M1 (fun d2 M2 => ∃ ds fs, d = .lst ds ∧ d2 = .lst fs ∧ Q (zipD ds fs) M2) E) E
end
end
end Wx
set_option Elab.async false
set_option linter.all false
set_option maxRecDepth 100000
set_option maxHeartbeats 3200000
/-! Fx, part 18: enumerate(a tuple). -/
namespace Fx
open PySem L2
open PySem.Spec PyProof.Rows
section
variable {prog : Program} {w : World} {A : Around} {E : Value → Shared → Prop} {s : Shared} {it t : Addr} {i : Nat} {items : Array Value}
/-- a tuple's iterator, one turn: the record is read, then the item at its place is looked for -/
theorem next_tup {Q : Value → Shared → Prop} (hit : s.heap.IsTupleIter it t i) (ht : s.heap.IsTuple t items)
    (item : ∀ x h1, items[i]? = some x → h1.IsTupleIter it t (i + 1) → Heap.SameBut it s.heap h1 → Q x { s with heap := h1 })
    (stop : items[i]? = none → A.handled = none ∧ ∀ h1 e, Heap.ExtBut it s.heap h1 → (∃ o, h1.get? e = some o ∧ o.cls = .type "StopIteration") → E (.ref e) { s with heap := h1 }) :
    wpAny (model prog w) A (Builtin.SmallTypes.nextOf (.ref it)) Q E s := by
  have ty := hit.typeIs
  rcases id hit with ⟨r, hr, rc, rd⟩
  rcases ht with ⟨tt, htt, _, m, td⟩
  unfold Builtin.SmallTypes.nextOf
  refine wpAny_bind (wpAny_callSpecial?_slot (name := Str.ofString "__next__") ty F.slot_tuple_iterator_next (wpAny_call_entry F.slot_tuple_iterator_next ty F.entry_tuple_iterator_next ?_ (F.args_tuple_iterator_next_1 _)))
  refine wpAny_bind (m := field (.ref it) 0) (wpAny_field hr rd (x := .ref t) rfl ?_)
  refine (if_neg (show ¬ ((Value.ref t == Value.none) = true) from Bool.false_ne_true) : (if (Value.ref t == Value.none) = true then _ else _) = _) ▸ ?_
  refine wpAny_bind (m := field (.ref it) 1) (wpAny_field hr rd (x := .int i 0) rfl (wpAny_bind (m := seqItems? (.ref t)) (wpAny_seqItems htt td ?_)))
  cases hx : items[i]? with
  | some x =>
    simp only [Int.toNat_natCast, hx]
    refine wpAny_bind (wpAny_setField hr rd (by simp) (wpAny_pure ⟨x, rfl, wpAny_pure (item x _ hx ⟨_, Heap.get?_update_self _ hr (Obj.isFreed_of_fields (Obj.data_mapFields rd _)), (Obj.cls_mapFields ..).trans rc, ?_⟩ (Heap.SameBut.update ..))⟩))
    rw [Obj.data_mapFields rd]
    simp [rawInt]
  | none =>
    obtain ⟨hh, fin⟩ := stop hx
    simp only [Int.toNat_natCast, hx]
    refine wpAny_bind (wpAny_rule (wpAny_bind (wpAny_setField hr rd (by simp) ?_)))
    refine wpAny_bind (m := newExc (.type "StopIteration") []) ?_
    simp only [newExc, newTuple]
    refine wpAny_bind (wpAny_newObj_type (wpAny_bind (m := firstArgMember _ _) (wpAny_of_eq (a := Value.none) (by first | rfl | (simp only [firstArgMember]; rfl)) (wpAny_newObj_type ?_ (by size_fits)))) (by size_fits))
    simp only [raiseNew]
    refine wpAny_bind (wpAny_handled ?_)
    first | rw [show A.in1.handled = none from hh] | rw [hh]
    exact wpAny_bind (wpAny_pure (wpAny_throw (fin _ _ (((Heap.SameBut.update ..).extBut.push _).push _) ⟨_, Heap.get?_push_size _ rfl, rfl⟩)))
end
theorem draws_tup {prog : Program} {w : World} {A : Around} (hh : A.handled = none) (it t : Addr) (hne : t ≠ it) (items : Array Value) :
    Draws prog w A it [it, t] items.size (fun i v => items[i]? = some v) (fun i h => h.IsTupleIter it t i ∧ h.IsTuple t items) :=
  ⟨fun _ _ st => let ⟨o, ho, _⟩ := st.1; ⟨o, ho⟩,
   fun _ _ _ ⟨⟨o, ho, r⟩, ⟨o2, ho2, r2⟩⟩ hk => ⟨⟨o, hk it List.mem_cons_self o ho, r⟩, ⟨o2, hk t (List.mem_cons_of_mem _ List.mem_cons_self) o2 ho2, r2⟩⟩,
   fun i s Q E hi st k => next_tup st.1 st.2 (fun x h1 hx a sb => k x h1 s.toks hx ⟨a, st.2.extBut sb.extBut hne⟩ sb) fun hx => absurd hx (by simp [hi]),
   fun s Q E st k => next_tup st.1 st.2 (fun x h1 hx _ _ => absurd hx (by simp)) fun _ => ⟨hh, k⟩⟩
/-- enumerate's own __new__ on a tuple -/
theorem enumT_new (t : Addr) (items : Array Value) (n : Nat) (dct : Option Addr) (sl : Array (Option Value)) :
    Meets (Builtin.«enumerate.__new__» ⟨[.type "enumerate", .ref t], []⟩) (fun _ R s => s.heap.get? t = some { cls := .type "tuple", dict := dct, data := .seq items n, slots := sl } ∧
      R (.ok (.ret (.ref (s.heap.push { cls := .type "tuple_iterator", data := .fields #[.ref t, .int 0 0] }).objs.size)))
        { s with heap := (s.heap.push { cls := .type "tuple_iterator", data := .fields #[.ref t, .int 0 0] }).push { cls := .type "enumerate", data := .fields #[.none, .bool false, .ref s.heap.objs.size, rawInt 0, .none, .none] } }) :=
  .of_wp fun prog w A R s ⟨ht, fin⟩ => by
    rcases s with ⟨hp, g, d, tk, os⟩
    have sub := sub_enumerate
    have hT : Heap.IsTuple (Shared.heap ⟨hp, g, d, tk, os⟩) t items := ⟨_, ht, rfl, n, rfl⟩
    wp_walk using AutoSeq1.wpAny_loadPart' ht
    refine wpAny_stack_any fun st => wpAny_pure ?_
    split
    · rename_i c _ _ _ _ _
      cases (c == Value.type "enumerate")
      all_goals
        wp_walk using AutoSeq1.wpAny_loadPart' ht, wpAny_pyIter_tuple hT
        exact ⟨_, rfl, fin⟩
    · wp_walk using AutoSeq1.wpAny_loadPart' ht, wpAny_pyIter_tuple hT
      exact ⟨_, rfl, fin⟩
section
variable {prog : Program} {w : World} {A : Around} {E : Value → Shared → Prop} {s : Shared}
theorem call_enumT {t : Addr} {items : Array Value} {Q : Value → Shared → Prop} (hT : s.heap.IsTuple t items)
    (fin : ∀ h1, IsEnum h1 (s.heap.objs.size + 1) s.heap.objs.size 0 .none → h1.IsTupleIter s.heap.objs.size t 0 → (∀ b o, s.heap.get? b = some o → h1.get? b = some o) → Q (.ref (s.heap.objs.size + 1)) { s with heap := h1 }) :
    wpAny (model prog w) A (call (.type "enumerate") [.ref t]) Q E s := by
  rcases hT with ⟨⟨c, dct, dt, sl⟩, ht, hc, n, hd⟩
  obtain rfl : c = .type "tuple" := hc
  obtain rfl : dt = .seq items n := hd
  refine callType_new F.called_enumerate (by decide) (F.typeCall_enumerate_1 _) (F.newCall_enumerate_1 _) (fun o => F.args_object_init_2 o _) F.entry_enumerate_new (enumT_new t items n dct sl) ⟨ht, ?_⟩
  have z : (s.heap.push { cls := .type "tuple_iterator", data := .fields #[.ref t, .int 0 0] }).objs.size = s.heap.objs.size + 1 := Heap.size_push ..
  have e1 := Heap.get?_push_size (s.heap.push { cls := .type "tuple_iterator", data := .fields #[.ref t, .int 0 0] }) (o := { cls := .type "enumerate", data := .fields #[.none, .bool false, .ref s.heap.objs.size, rawInt 0, .none, .none] }) rfl
  rw [z] at e1 ⊢
  exact ⟨⟨_, e1, rfl⟩, fin _ e1 ⟨_, Heap.get?_push_of_some _ (Heap.get?_push_size _ rfl), rfl, rfl⟩ fun b o x => Heap.get?_push_of_some _ (Heap.get?_push_of_some _ x)⟩
end
/-- the tuple at a, each item in a new pair -/
def ItE (K : PySem.W.Frag) (a : Addr) : It :=
  ⟨fun i H => ∃ (xs : List V) (x : V), SqT K H a xs ∧ xs[i]? = some x, fun i H v H' => ∃ T x, v = .ref T ∧ H T = none ∧ H' = upd H T (.tup [.int (i : Nat), x]) ∧ ∀ xs, SqT K H a xs → xs[i]? = some x, fun i H => ∃ xs : List V, SqT K H a xs ∧ xs.length ≤ i⟩
theorem turn_enumT {P : Program} {w : World} {K : PySem.W.Frag} {elts : List Expr} {kk : Nat} {tpos : Pos} (a e it : Addr) :
    Turn P w K (.Tuple elts kk tpos) (ItE K a) [e, it] e (fun i h => (∃ old, IsEnum h e it ((i : Nat) : Int) old) ∧ h.IsTupleIter it a i ∧ e ≠ it ∧ a ≠ it ∧ a ≠ e) where
  mem := List.mem_cons_self
  obj := fun i h ⟨⟨old, he⟩, ⟨o, ho, _, hd⟩, _⟩ b hb => by
    rcases List.mem_cons.mp hb with z | z
    · subst z; exact ⟨_, he, fun v q => nomatch q⟩
    · cases List.mem_singleton.mp z
      exact ⟨o, ho, fun v q => by rw [hd] at q; cases q⟩
  keep := fun i h h1 ⟨⟨old, he⟩, ⟨o, ho, r⟩, n⟩ k => ⟨⟨old, k e List.mem_cons_self _ he⟩, ⟨o, k it (List.mem_cons_of_mem _ List.mem_cons_self) o ho, r⟩, n⟩
  item := by
    intro X hP hw hK hc i pins s σ H E I hf st hg
    subst hP hw hK
    obtain ⟨⟨old, he⟩, hit, n1, n2, n3⟩ := st
    obtain ⟨xs, x, hq, hx⟩ := hg
    obtain ⟨its, rv, p, hz⟩ := I.tuple hq
    obtain ⟨u, hu, ru⟩ := rv.get hx
    have lt_e : e < s.heap.objs.size := Heap.lt_size he
    have lt_it : it < s.heap.objs.size := let ⟨_, q, _⟩ := hit; Heap.lt_size q
    have lti : i < its.toArray.size := by have := (List.getElem?_eq_some_iff.mp hu).1; simpa using this
    refine wpAny_pyNext_enum_itemD (draws_tup (A := X.A.in1) (I.ok.hd hc) it a n2 its.toArray) he ⟨hit, p⟩ lti n1 (by simp only [List.mem_cons, List.not_mem_nil, or_false, not_or]; exact ⟨n1, fun z => n3 z.symm⟩) fun y h1 tk hy ho st1 hT hsz hk => ?_
    have ey : y = u := by
      rw [List.getElem?_toArray, hu] at hy
      exact (Option.some.inj hy).symm
    subst ey
    refine ⟨_, rfl, wpAny_letOwnedTupleGo_enum (s := { s with heap := h1, toks := tk + 1 }) ho fun h2 he2 sb => ?_⟩
    have hT2 : h2.get? s.heap.objs.size = some { cls := .type "tuple", data := .seq #[.int i tk, y] } := (sb.2 _ (Nat.ne_of_gt lt_e)).trans hT
    have new : ObjOk X.prog X.w (upd H s.heap.objs.size (.tup [.int (i : Nat), x])) h2 s.heap.objs.size (.tup [.int (i : Nat), x]) :=
      ⟨(by decide : 2 ≤ sizeLine), [.int i tk, y], .cons ⟨_, rfl⟩ (.cons ru .nil), ⟨_, hT2, rfl, _, rfl⟩⟩
    have I1 : Inv X pins σ (upd H s.heap.objs.size (.tup [.int (i : Nat), x])) { s with heap := h2, toks := tk + 1 } :=
      I.turnedNew (ch := [e, it]) (fun b ob hb q => (sb.2 b fun z => hb (z ▸ List.mem_cons_self)).trans (hk b ob (fun z => hb (z ▸ List.mem_cons_self)) (fun z => hb (z ▸ List.mem_cons_of_mem _ List.mem_cons_self)) q)) hf (Nat.le_refl _) new
    refine ⟨.ref s.heap.objs.size, _, I1, rfl, ⟨_, x, rfl, I.hok.fresh (Nat.le_refl _), rfl, fun ys hy => by rw [I.tuple_inj hy hq]; exact hx⟩, ⟨⟨y, ?_⟩, ?_, n1, n2, n3⟩, fun b hb => ?_⟩
    · rw [show ((i + 1 : Nat) : Int) = (i : Int) + 1 from by omega]; exact he2
    · obtain ⟨⟨o, q, r⟩, _⟩ := st1
      exact ⟨o, (sb.2 it (Ne.symm n1)).trans q, r⟩
    · have lb : b < s.heap.objs.size := by
        rcases List.mem_cons.mp hb with z | z
        · rw [z]; exact lt_e
        · rw [List.mem_singleton.mp z]; exact lt_it
      rw [upd_ne (Nat.ne_of_lt lb)]
      exact (hf b hb).1
  done := by
    intro X hP hw hK hc i pins s σ H E I hf st hg
    subst hP hw hK
    obtain ⟨⟨old, he⟩, hit, n1, n2, n3⟩ := st
    obtain ⟨xs, hq, hx⟩ := hg
    obtain ⟨its, rv, p, hz⟩ := I.tuple hq
    obtain ⟨f0, f1, f2, f3, f4, f5⟩ := hf it (List.mem_cons_of_mem _ List.mem_cons_self)
    -- the iterator's own answer is the end: the place is not among the items
    refine wpAny_pyNext_enum_endD (n := i) (P := fun _ _ => True) (St := fun j h => j = i ∧ h.IsTupleIter it a i ∧ h.IsTuple a its.toArray) (fp := [it, a]) ⟨fun _ _ st => let ⟨o, ho, _⟩ := st.2.1; ⟨o, ho⟩, fun _ _ _ ⟨e1, ⟨o, ho, r⟩, ⟨o2, ho2, r2⟩⟩ hk => ⟨e1, ⟨o, hk it List.mem_cons_self o ho, r⟩, ⟨o2, hk a (List.mem_cons_of_mem _ List.mem_cons_self) o2 ho2, r2⟩⟩,
      fun j s Q E hj st k => absurd hj (by rw [st.1]; exact Nat.lt_irrefl _), fun s Q E st k => next_tup st.2.1 st.2.2 (fun x h1 hx2 _ _ => absurd hx2 (by have := rv.length; rw [List.getElem?_toArray, List.getElem?_eq_none (by omega)]; exact fun z => nomatch z)) fun _ => ⟨I.ok.hd hc, k⟩⟩ he ⟨rfl, hit, p⟩ fun h1 eb => ⟨rfl, I.turned (t' := s.toks) (fun b o hb q => eb b o hb q) f0 f1 f3 f4 f5⟩
  self := fun A i s Q E ⟨⟨_, he⟩, _⟩ h => wpAny_pyIter_enum he h
section
variable {X : Cx} {e : Expr} {p px pos tpos : Pos} {elts : List Expr} {kk : Nat} {σ : L2.St} {B : Hp}
theorem pi_enumT {ta : TA} (hg : Gl X "enumerate") (hm : X.mg "enumerate" = none) (ha : PA X [e] ta) (hs : starEach [e] X.env = [(false, eval e X.env)] := by rfl) :
    PI X (.Tuple elts kk tpos) (.Call (.Name "enumerate" p) [e] [] pos) (fun σ H R => ta σ H fun vs H1 => ∃ a xs, vs = [.ref a] ∧ SqT X.K H1 a xs ∧ R (ItE X.K a) H1) := by
  refine ⟨fun pins s σ H R I h => Call_ (ld_blt I hg hm boot_enumerate (PyProof.Rows.callWith_type1 (thn (ha.run pos pins s σ H _ I h) fun us s1 ⟨vs, H1, I1, r1, a, xs, ex, hq, q⟩ => ?_) hs rfl))⟩
  subst ex
  rw [Vals.ref1 r1]
  obtain ⟨its, rv, tt, hz⟩ := I1.tuple hq
  have lta : a < s1.heap.objs.size := let ⟨_, z, _⟩ := tt; Heap.lt_size z
  refine call_enumT tt fun h1 he hit hk => wpAny_pyIter_enum he ?_
  have I2 : Inv X pins σ H1 { s1 with heap := h1 } := I1.kept (t' := s1.toks) hk
  refine ⟨s1.heap.objs.size + 1, [s1.heap.objs.size + 1, s1.heap.objs.size], _, _, H1, rfl, I2, turn_enumT a (s1.heap.objs.size + 1) s1.heap.objs.size, ⟨⟨.none, he⟩, hit, Nat.succ_ne_self _, Nat.ne_of_lt lta, Nat.ne_of_lt (Nat.lt_succ_of_lt lta)⟩, fun b hb => ?_, q⟩
  have le : s1.heap.objs.size ≤ b := by
    rcases List.mem_cons.mp hb with z | z
    · rw [z]; exact Nat.le_succ _
    · rw [List.mem_singleton.mp z]; exact Nat.le_refl _
  exact I1.fpOk le (I1.hok.fresh le)
theorem walk_enumT {K : PySem.W.Frag} {a : Addr} {xs : List V} : Walk (ItE K a) xs.length (fun H => SqT K H a xs) (fun i H v H' => ∃ T x y, v = .ref T ∧ H T = none ∧ H' = upd H T (.tup [x, y]) ∧ x = .int (i : Nat) ∧ xs[i]? = some y) := by
  exact ⟨fun i _ hi q => ⟨xs, xs[i], q, by simp [hi]⟩, fun _ q => ⟨xs, q, Nat.le_refl _⟩, fun i H v H' _ q ⟨T, x, h1, h2, h3, h4⟩ => ⟨T, .int (i : Nat), x, h1, h2, h3, rfl, h4 xs q⟩⟩
theorem wi_enumT {ds : List Fx.D} (h : EN X e σ B (Eq (.tup ds))) (hm : X.mg "enumerate" = none) (hg : Gl X "enumerate" := by rfl) (hs : starEach [e] X.env = [(false, eval e X.env)] := by rfl) :
    WI X (.Tuple elts kk tpos) (.Call (.Name "enumerate" px) [e] [] pos) σ B (Eq (enumD ds)) := fun B1 H e1 e2 R k =>
  RI.of (pi_enumT hg hm (pa_cons cE pa_nil hs) hs) (h B1 H e1 e2 _ fun v d B' H' s q r => by
    subst q
    obtain ⟨a, vs, rfl, h1, h2⟩ := Rp.tup.mp r
    refine ⟨a, vs, rfl, s.bh.t h1, k _ (enumD ds) B' H' s rfl ⟨_, _, by rw [enumD_length, h2.length]; exact walk_enumT (xs := vs), fun H q => q.t h1, fun i H v H' B1 hi e1 e2 q => ?_⟩⟩
    obtain ⟨T, x, y, rfl, hT, rfl, rfl, hy⟩ := q
    obtain ⟨d, hd, rd⟩ := h2.get hy
    exact ⟨_, _, Step.alloc e2 hT, enumD_at hd, Rp.tup.mpr ⟨T, _, rfl, SqT.of upd_same, RpL.cons (Rp.int.mpr rfl) (RpL.cons (rd.mono (e1.trans (Ex.new (e2.back hT)))) RpL.nil)⟩⟩)
end
end Fx
set_option Elab.async false
set_option linter.all false
set_option maxRecDepth 100000
set_option maxHeartbeats 2000000
/-! Wx, part 4: walks, targets, comprehensions, loops over states by data. -/
namespace Wx
open PySem L2 Fx PySem.Spec PyProof.Rows

/-! ### targets -/
def gAll (K : PySem.W.Frag) : List Nat → TG
  | [i] => gName i
  | is => gTup K is.length (gEach is)
where gEach : List Nat → TGs
  | [] => gNil
  | i :: is => gCons (gName i) (gEach is)
theorem g_each {K : PySem.W.Frag} {B H : Hp} {Q : L2.St → Hp → Prop} : ∀ {is : List Nat} {ds : List D} {vs : List V} {l : Sl} {σ : L2.St}, SdR K B l σ → RpL K B ds vs → is.length = ds.length → (∀ σ', SdR K B (setAll l is ds) σ' → σ'.length = σ.length → (∀ j, j ∉ is → σ'[j]? = σ[j]?) → Q σ' H) → gAll.gEach is vs σ H Q
  | [], ds, vs, l, σ, S, r, hl, k => by
    have e : ds = [] := List.length_eq_zero_iff.mp hl.symm
    subst e
    simp only [RpL] at r
    subst r
    refine ⟨rfl, k σ ?_ rfl fun _ _ => rfl⟩
    unfold setAll; exact S
  | i :: is, [], vs, l, σ, S, r, hl, k => by simp at hl
  | i :: is, d :: ds, vs, l, σ, S, r, hl, k => by
    simp only [RpL] at r
    obtain ⟨v, t, rfl, r1, r2⟩ := r
    refine ⟨v, t, rfl, ?_⟩
    refine g_each (S.set r1 (i := i)) r2 (by simpa using hl) fun σ' S' hl' hs' => ?_
    refine k σ' ?_ (hl'.trans (by rw [List.length_set])) fun j hj => ?_
    · unfold setAll; exact S'
    · rw [hs' j (fun z => hj (List.mem_cons_of_mem _ z)), List.getElem?_set_ne (fun z => hj (by rw [← z]; exact List.mem_cons_self))]
theorem g_all {K : PySem.W.Frag} {B H : Hp} {Q : L2.St → Hp → Prop} {is : List Nat} {d : D} {ps : List D} {v : V} {l : Sl} {σ : L2.St} (x : Ex B H) (S : SdR K B l σ) (r : Rp K B d v) (hp : partsOf is.length d = some ps)
    (k : ∀ σ', SdR K B (setAll l is ps) σ' → σ'.length = σ.length → (∀ j, j ∉ is → σ'[j]? = σ[j]?) → Q σ' H) : gAll K is v σ H Q := by
  have multi : is.length ≠ 1 → gTup K is.length (gAll.gEach is) v σ H Q := fun h1 => by
    unfold partsOf at hp
    split at hp
    · rename_i e; exact absurd e h1
    · split at hp
      · rename_i ds
        split at hp
        · rename_i hl
          cases hp
          obtain ⟨a, vs, rfl, h1, h2⟩ := Rp.tup.mp r
          exact ⟨a, vs, rfl, x.t h1, by rw [← h2.length, hl], g_each S h2 hl.symm k⟩
        · cases hp
      · cases hp
  match is, hp, k, multi with
  | [i], hp, k, _ =>
    cases hp
    show Q (σ.set i (some v)) H
    refine k _ ?_ (by rw [List.length_set]) fun j hj => List.getElem?_set_ne (fun z => hj (by rw [← z]; exact List.mem_cons_self))
    unfold setAll setAll
    exact S.set r
  | [], hp, k, multi => exact multi (by simp)
  | i :: j :: is, hp, k, multi => exact multi (by simp)

/-! ### walks -/
def GI (X : Cx) (T : Tb) (tg iter : Expr) (l : Sl) (M : Mem) (Q : List D → Mem → Prop) (E : PX) : Prop :=
  ∀ σ B H, StR X.K T l M σ B H → ∀ (R : It → Hp → Prop) W, Takes X W → (∀ J ds M' B' H', Go M B H M' B' H' → StR X.K T l M' σ B' H' → Wk X.K J B' ds → Q ds M' → R J H') → KnX X.K T l M σ B H W E → RI X tg iter σ H R
section
variable {X : Cx} {T : Tb} {tg iter e : Expr} {l : Sl} {M : Mem} {Q : List D → Mem → Prop} {E : PX}
theorem gi_lst (h : GE X T iter l M (fun d M1 => ∃ ds, d = .lst ds ∧ Q ds M1) E) : GI X T tg iter l M Q E := fun σ B H S R W tk kr kx =>
  RI.of (pi_list cE) (h σ B H S _ W tk (fun v d M1 B1 H1 g S1 r ⟨ds, e, q⟩ => by
    subst e
    obtain ⟨a, vs, rfl, h1, h2⟩ := Rp.lst.mp r
    exact ⟨a, rfl, ⟨vs, SqL.of (S1.ex _ _ h1)⟩, kr _ ds M1 B1 H1 g S1 (wk_list h1 h2) q⟩) kx)
theorem gi_tup (h : GE X T iter l M (fun d M1 => ∃ ds, d = .tup ds ∧ Q ds M1) E) : GI X T tg iter l M Q E := fun σ B H S R W tk kr kx =>
  RI.of (pi_tup cE) (h σ B H S _ W tk (fun v d M1 B1 H1 g S1 r ⟨ds, e, q⟩ => by
    subst e
    obtain ⟨a, vs, rfl, h1, h2⟩ := Rp.tup.mp r
    exact ⟨a, rfl, ⟨vs, S1.ex.t h1⟩, kr _ ds M1 B1 H1 g S1 (wk_tup h1 h2) q⟩) kx)
theorem gi_str (h : GE X T iter l M (fun d M1 => ∃ z, d = .str z ∧ Q (Fx.signs z) M1) E) : GI X T tg iter l M Q E := fun σ B H S R W tk kr kx =>
  RI.of (pi_str cE) (h σ B H S _ W tk (fun v d M1 B1 H1 g S1 r ⟨z, e, q⟩ => by
    subst e
    have hl : (Fx.signs z).length = z.cps.size := by unfold Fx.signs; rw [List.length_map, Array.length_toList]
    refine ⟨z, Rp.str.mp r, kr _ (Fx.signs z) M1 B1 H1 g S1 ⟨_, _, by rw [hl]; exact walk_str, fun _ _ => trivial, fun i H v H' B1 hi e1 e2 q => ?_⟩ q⟩
    obtain ⟨rfl, c, hc, rfl⟩ := q
    refine ⟨B1, _, Step.refl e2, ?_, Rp.str.mpr rfl⟩
    unfold Fx.signs
    rw [List.getElem?_map, Array.getElem?_toList, hc]; rfl) kx)
variable {px pos : Pos}
theorem gl_one {es : List Expr} {Q : List D → Mem → Prop} (h : GE X T e l M (fun d M1 => Q [d] M1) E) (hs : starEach [e] X.env = (false, eval e X.env) :: starEach [] X.env) : GL X T [e] l M Q E := gl_cons (h.imp fun d M1 q => gl_nil q) hs
theorem gi_range (h : GE X T e l M (fun d M1 => ∃ n, d = .int n ∧ (-(2 ^ 62) ≤ n ∧ n < 2 ^ 62) ∧ Q (upTo n.toNat) M1) E) (hm : X.mg "range" = none) (hg : Gl X "range") (hs : starEach [e] X.env = [(false, eval e X.env)]) :
    GI X T tg (.Call (.Name "range" px) [e] [] pos) l M Q E := fun σ B H S R W tk kr kx =>
  RI.of (pi_range1 hg hm (pa_cons cE pa_nil hs) hs) (h σ B H S _ W tk (fun v d M1 B1 H1 g S1 r ⟨n, e, hb, q⟩ => by
    subst e
    refine ⟨n, by rw [Rp.int.mp r], hb.1, hb.2, kr _ (upTo n.toNat) M1 B1 H1 g S1 ⟨_, _, by rw [upTo_length]; exact walk_range, fun _ _ => trivial, fun i H v H' B1 hi e1 e2 q => ?_⟩ q⟩
    obtain ⟨rfl, rfl⟩ := q
    rw [upTo_length] at hi
    exact ⟨B1, _, Step.refl e2, upTo_at hi, by rw [Rp.int]; simp⟩) kx)
variable {elts : List Expr} {kk : Nat} {tpos : Pos}
theorem gi_enum (h : GE X T e l M (fun d M1 => ∃ ds, d = .lst ds ∧ Q (enumD ds) M1) E) (hm : X.mg "enumerate" = none) (hg : Gl X "enumerate") (hs : starEach [e] X.env = [(false, eval e X.env)]) :
    GI X T (.Tuple elts kk tpos) (.Call (.Name "enumerate" px) [e] [] pos) l M Q E := fun σ B H S R W tk kr kx =>
  RI.of (pi_enum hg hm (pa_cons cE pa_nil hs) hs) (h σ B H S _ W tk (fun v d M1 B1 H1 g S1 r ⟨ds, e, q⟩ => by
    subst e
    obtain ⟨a, vs, rfl, h1, h2⟩ := Rp.lst.mp r
    refine ⟨a, vs, rfl, SqL.of (S1.ex _ _ h1), kr _ (enumD ds) M1 B1 H1 g S1 ⟨_, _, by rw [enumD_length, h2.length]; exact walk_enum (xs := vs), fun H q => SqL.of (q _ _ h1), fun i H v H' B1 hi e1 e2 q => ?_⟩ q⟩
    obtain ⟨T, x, y, rfl, hT, rfl, hx, hy⟩ := q
    obtain ⟨d, hd, rd⟩ := h2.get hy
    cases hx
    exact ⟨_, _, Step.alloc e2 hT, enumD_at hd, Rp.tup.mpr ⟨T, _, rfl, SqT.of upd_same, RpL.cons (Rp.int.mpr rfl) (RpL.cons (rd.mono (e1.trans (Ex.new (e2.back hT)))) RpL.nil)⟩⟩) kx)
theorem gi_enumT (h : GE X T e l M (fun d M1 => ∃ ds, d = .tup ds ∧ Q (enumD ds) M1) E) (hm : X.mg "enumerate" = none) (hg : Gl X "enumerate") (hs : starEach [e] X.env = [(false, eval e X.env)]) :
    GI X T (.Tuple elts kk tpos) (.Call (.Name "enumerate" px) [e] [] pos) l M Q E := fun σ B H S R W tk kr kx =>
  RI.of (pi_enumT hg hm (pa_cons cE pa_nil hs) hs) (h σ B H S _ W tk (fun v d M1 B1 H1 g S1 r ⟨ds, e, q⟩ => by
    subst e
    obtain ⟨a, vs, rfl, h1, h2⟩ := Rp.tup.mp r
    refine ⟨a, vs, rfl, S1.ex.t h1, kr _ (enumD ds) M1 B1 H1 g S1 ⟨_, _, by rw [enumD_length, h2.length]; exact walk_enumT (xs := vs), fun H q => q.t h1, fun i H v H' B1 hi e1 e2 q => ?_⟩ q⟩
    obtain ⟨T, x, y, rfl, hT, rfl, hx, hy⟩ := q
    obtain ⟨d, hd, rd⟩ := h2.get hy
    cases hx
    exact ⟨_, _, Step.alloc e2 hT, enumD_at hd, Rp.tup.mpr ⟨T, _, rfl, SqT.of upd_same, RpL.cons (Rp.int.mpr rfl) (RpL.cons (rd.mono (e1.trans (Ex.new (e2.back hT)))) RpL.nil)⟩⟩) kx)
theorem gi_zip {f : Expr} (h : GL X T [e, f] l M (fun l2 M1 => ∃ ds fs, l2 = [.lst ds, .lst fs] ∧ Q (zipD ds fs) M1) E) (hm : X.mg "zip" = none) (hg : Gl X "zip")
    (hs : starEach [e, f] X.env = (false, eval e X.env) :: starEach [f] X.env) (hpl : (backTo pos (starEach [f] X.env)).any (·.1) = false) :
    GI X T (.Tuple elts kk tpos) (.Call (.Name "zip" px) [e, f] [] pos) l M Q E := fun σ B H S R W tk kr kx =>
  RI.of (pi_zip hg hm cA hs hpl) (h σ B H S _ W tk (fun vs l2 M1 B1 H1 g S1 r ⟨ds, fs, e, q⟩ => by
    subst e
    obtain ⟨v, w, rfl, ra, rb⟩ := rpl2 r
    obtain ⟨a, us, rfl, h1, h2⟩ := Rp.lst.mp ra
    obtain ⟨b, ws, rfl, h3, h4⟩ := Rp.lst.mp rb
    refine ⟨a, b, us, ws, rfl, SqL.of (S1.ex _ _ h1), SqL.of (S1.ex _ _ h3), kr _ (zipD ds fs) M1 B1 H1 g S1 ⟨_, _, walk_zip (xs := us) (ys := ws) (by rw [zipD_length, h2.length, h4.length]), fun H q => ⟨SqL.of (q _ _ h1), SqL.of (q _ _ h3)⟩, fun i H v H' B1 hi e1 e2 q => ?_⟩ q⟩
    obtain ⟨T, x, y, rfl, hT, rfl, hx, hy⟩ := q
    obtain ⟨d, hd, rd⟩ := h2.get hx
    obtain ⟨d', hd', rd'⟩ := h4.get hy
    have e3 := e1.trans (Ex.new (o := .tup [x, y]) (e2.back hT))
    refine ⟨_, .tup [d, d'], Step.alloc e2 hT, ?_, Rp.tup.mpr ⟨T, _, rfl, SqT.of upd_same, RpL.cons (rd.mono e3) (RpL.cons (rd'.mono e3) RpL.nil)⟩⟩
    unfold zipD
    rw [List.getElem?_map, (List.getElem?_zip_eq_some (z := (d, d'))).mpr ⟨hd, hd'⟩]; rfl) kx)
end

/-! ### comprehensions -/
theorem wipeS_length (l : Sl) : ∀ vs, (wipeS l vs).length = l.length
  | [] => rfl
  | v :: vs => by unfold wipeS; rw [List.length_set, wipeS_length]
theorem SdR.unset {K : PySem.W.Frag} {B : Hp} {l : Sl} {σ : L2.St} (s : SdR K B l σ) (i : Nat) : SdR K B (l.set i none) (σ.set i none) := ⟨by rw [List.length_set, List.length_set]; exact s.len, fun j d h => by
  by_cases e : i = j
  · subst e
    by_cases hl : i < l.length
    · rw [List.getElem?_set_self hl] at h; cases h
    · rw [List.getElem?_eq_none (by rw [List.length_set]; omega)] at h; cases h
  · rw [List.getElem?_set_ne e] at h ⊢
    exact s.at_ j d h⟩
theorem SdR.wipe {K : PySem.W.Frag} {B : Hp} {l : Sl} {σ : L2.St} (s : SdR K B l σ) : ∀ vs, SdR K B (wipeS l vs) (L2.wipe σ vs)
  | [] => s
  | v :: vs => by unfold wipeS L2.wipe; exact (s.wipe vs).unset v
theorem wipe_out {σ : L2.St} {j : Nat} : ∀ {vs : List Nat}, j ∉ vs → (L2.wipe σ vs)[j]? = σ[j]?
  | [], _ => rfl
  | v :: vs, h => by
    unfold L2.wipe
    rw [List.getElem?_set_ne (fun z => h (by rw [← z]; exact List.mem_cons_self)), wipe_out (fun z => h (List.mem_cons_of_mem _ z))]
theorem wipe_in {σ : L2.St} {j : Nat} : ∀ {vs : List Nat}, j ∈ vs → j < σ.length → (L2.wipe σ vs)[j]? = some none
  | [], h, _ => nomatch h
  | v :: vs, h, hl => by
    unfold L2.wipe
    by_cases e : v = j
    · subst e; exact List.getElem?_set_self (by rw [L2.wipe_length]; exact hl)
    · rw [List.getElem?_set_ne e]
      rcases List.mem_cons.mp h with z | z
      · exact absurd z.symm e
      · exact wipe_in z hl
theorem wipe_eq {σ σ2 : L2.St} {vs : List Nat} (hl : σ2.length = σ.length) (h : ∀ j, j ∉ vs → σ2[j]? = σ[j]?) : L2.wipe σ2 vs = L2.wipe σ vs := by
  refine List.ext_getElem? fun j => ?_
  by_cases hj : j ∈ vs
  · by_cases hlt : j < σ.length
    · rw [wipe_in hj (hl ▸ hlt), wipe_in hj hlt]
    · rw [List.getElem?_eq_none (by rw [L2.wipe_length]; omega), List.getElem?_eq_none (by rw [L2.wipe_length]; omega)]
  · rw [wipe_out hj, wipe_out hj, h j hj]
section
variable {K : PySem.W.Frag} {T : Tb} {l : Sl} {M : Mem} {σ : L2.St} {B H B0 H0 : Hp}
/-- a new list that is none of one's own things is changed -/
theorem StR.poke (S : StR K T l M σ B H) {L : Addr} {vs ws : List V} (hB : B L = none) (hM : L ∉ M.ks) (hH : H L = some (.lst vs)) : StR K T l M σ B (upd H L (.lst ws)) := by
  have ne : ∀ a u, H a = some u → (∀ vs, u ≠ .lst vs) → a ≠ L := fun a u h n z => by
    rw [z, hH] at h
    cases h
    exact n _ rfl
  refine ⟨fun a o h => ?_, S.nt, S.sl, ⟨S.mm.nd, fun p o h => ⟨(S.mm.at_ p o h).1, (S.mm.at_ p o h).2.mono (Ex.refl B) (upd_ne fun z => hM (z ▸ at_ks h)) fun c φ z => (upd_ne (ne _ _ z fun _ z => nomatch z)).trans z⟩⟩, fun q hq => ?_⟩
  · rw [upd_ne (ne_of_none h hB)]; exact S.ex a o h
  · obtain ⟨ps, h1, h2, h3⟩ := S.tb q hq
    refine ⟨ps, by rw [upd_ne (ne _ _ h1 fun _ z => nomatch z)]; exact h1, h2, fun pos cv hc => ?_⟩
    obtain ⟨c, e1, e2⟩ := h3 pos cv hc
    exact ⟨c, e1, by rw [upd_ne (ne _ _ e2 fun _ z => nomatch z)]; exact e2⟩
theorem Go.poke {M' : Mem} (g : Go M0 B0 H0 M' B H) {L : Addr} {u : HO} (h0 : H0 L = none) : Go M0 B0 H0 M' B (upd H L u) :=
  ⟨g.b, fun a o h n nt => by rw [upd_ne (ne_of_none h h0)]; exact g.h a o h n nt, g.nw, g.fr⟩
/-- a new thing is shared -/
theorem StR.share {u : HO} (S : StR K T l M σ B H) {L : Addr} (hB : B L = none) (hM : L ∉ M.ks) (hH : H L = some u) (nu : ∀ ps, u ≠ .tbl ps := by exact fun _ z => nomatch z) : StR K T l M σ (upd B L u) H := by
  refine ⟨S.ex.upd_left hH, fun a ps h => ?_, S.sl.mono (Ex.new hB), ⟨S.mm.nd, fun p o h => ?_⟩, S.tb⟩
  · by_cases e : a = L
    · subst e; rw [upd_same] at h; cases h; exact nu ps rfl
    · rw [upd_ne e] at h; exact S.nt a ps h
  · have e : p ≠ L := fun z => hM (z ▸ at_ks h)
    exact ⟨by rw [upd_ne e]; exact (S.mm.at_ p o h).1, (S.mm.at_ p o h).2.mono (Ex.new hB) rfl fun _ _ z => z⟩
theorem Go.share {M' : Mem} (g : Go M0 B0 H0 M' B H) {L : Addr} {u : HO} (h0 : H0 L = none) (hB : B L = none) : Go M0 B0 H0 M' (upd B L u) H :=
  ⟨g.b.trans (Ex.new hB), g.h, fun a o h hb n nt => by rw [upd_ne (ne_of_none h h0)]; exact g.nw a o h hb n nt, g.fr⟩
end
section
variable {X : Cx} {T : Tb} {elt tg iter c : Expr} {ifs : List Expr} {l : Sl} {M : Mem} {Q : PD} {E : PX} {scope : Scope} {own : List (Str × Nat)} {is : List Nat} {pos : Pos}
abbrev NX : PX := fun _ _ _ => False
/-- a list comprehension: the test t, the element e of the i-th item d with Pe i d e -/
theorem lcR {tt : TT}
    (sub : ∀ i ∈ is, i ∈ own.map (·.2))
    (h : GI X T tg iter l M (fun ds M1 => ds.length ≤ sizeLine ∧ ∃ (t : Nat → D → Bool) (Pe : Nat → D → D → Prop),
      (∀ i d, ds[i]? = some d → ∃ ps, partsOf is.length d = some ps ∧
        (∀ σ B H, StR X.K T (setAll (wipeS l (own.map (·.2))) is ps) M1 σ B H → ∀ Qv, KnB X.K T (setAll (wipeS l (own.map (·.2))) is ps) M1 σ B H Qv (fun b M2 => M2 = M1 ∧ b = t i d) → tt σ H Qv) ∧
        (t i d = true → ∀ s H0 C cl fp, GE (X.blk s H0 scope (compEnvC scope cl C X.env) fp) T elt (setAll (wipeS l (own.map (·.2))) is ps) M1 (fun e M2 => M2 = M1 ∧ Pe i d e) NX)) ∧
      ∀ es : List D, (∃ lo : List (Option D), lo.length = ds.length ∧ es = lo.filterMap id ∧ ∀ (i : Nat) (d : D), ds[i]? = some d → (t i d = false ∧ lo[i]? = some none) ∨ (t i d = true ∧ ∃ e, lo[i]? = some (some e) ∧ Pe i d e)) → Q (.lst es) M1) E)
    {σ : L2.St} {B H : Hp} (S : StR X.K T l M σ B H) {Qv : VK} {W : WX} (tk : Takes X W) (kn : KnD X.K T l M σ B H Qv Q) (kx : KnX X.K T l M σ B H W E) :
    tLc (RI X tg iter) (gAll X.K is) tt (BE X scope elt) (own.map (·.2)) σ H Qv := by
  refine h σ B H S _ W tk (fun J ds M1 B1 H1 g S1 w ⟨hsz, t, Pe, hp, k⟩ => ?_) kx
  obtain ⟨G, Yy, wk, hG, hY⟩ := w
  intro L hL
  have nL : L ∉ M1.ks := fun h => by
    obtain ⟨o', e⟩ := ks_at h
    obtain ⟨u', hu, _⟩ := (S1.mm.at_ L o' e).2.there
    rw [hL] at hu; cases hu
  have S0 : StR X.K T (wipeS l (own.map (·.2))) M1 (L2.wipe σ (own.map (·.2))) B1 H1 := S1.slots (S1.sl.wipe _)
  -- the state behind i turns
  let Pv : Nat → Hp → Prop := fun n H' => ∃ (B' : Hp) (vs : List V) (es : List D) (lo : List (Option D)), Go M1 B1 H1 M1 B' H' ∧ StR X.K T (wipeS l (own.map (·.2))) M1 (L2.wipe σ (own.map (·.2))) B' H' ∧ B' L = none ∧ H' L = some (.lst vs) ∧ RpL X.K B' es vs ∧ lo.length = n ∧ es = lo.filterMap id ∧
    ∀ (i : Nat) (d : D), i < n → ds[i]? = some d → (t i d = false ∧ lo[i]? = some none) ∨ (t i d = true ∧ ∃ e, lo[i]? = some (some e) ∧ Pe i d e)
  have ext : ∀ {lo : List (Option D)} {n : Nat} {o : Option D} {d0 : D}, lo.length = n → ds[n]? = some d0 → (∀ (i : Nat) (d : D), i < n → ds[i]? = some d → (t i d = false ∧ lo[i]? = some none) ∨ (t i d = true ∧ ∃ e, lo[i]? = some (some e) ∧ Pe i d e)) →
      ((t n d0 = false ∧ o = none) ∨ (t n d0 = true ∧ ∃ e, o = some e ∧ Pe n d0 e)) →
      ∀ (i : Nat) (d : D), i < n + 1 → ds[i]? = some d → (t i d = false ∧ (lo ++ [o])[i]? = some none) ∨ (t i d = true ∧ ∃ e, (lo ++ [o])[i]? = some (some e) ∧ Pe i d e) := fun {lo n o d0} hl hd0 h3 hn i d hi hd => by
    by_cases hji : i < n
    · rcases h3 i d hji hd with ⟨z1, z2⟩ | ⟨z1, e', z2, z3⟩
      · exact .inl ⟨z1, by rw [List.getElem?_append_left (by omega)]; exact z2⟩
      · exact .inr ⟨z1, e', by rw [List.getElem?_append_left (by omega)]; exact z2, z3⟩
    · have ej : i = n := by omega
      subst ej
      rw [hd0] at hd; cases hd
      rcases hn with ⟨z1, z2⟩ | ⟨z1, e', z2, z3⟩
      · exact .inl ⟨z1, by rw [List.getElem?_append_right (by omega), hl, z2]; simp⟩
      · exact .inr ⟨z1, e', by rw [List.getElem?_append_right (by omega), hl, z2]; simp, z3⟩
  refine lc_it wk Pv ?_ (fun i H' _ ⟨B', _, _, _, q1, q2, _⟩ => hG H' (q1.b.trans q2.ex)) (fun i v H2 H3 hi ⟨B', ws, es, lo, q1, q2, q3, q4, q5, q6, q7, q8⟩ y => ?_) (fun H' ⟨B', ws, es, lo, q1, q2, q3, q4, q5, q6, q7, q8⟩ => ?_)
  · obtain ⟨g0, S0'⟩ := S0.stepH (Ex.new (o := .lst []) hL)
    exact ⟨B1, [], [], [], g0, S0', S1.ex.back hL, upd_same, RpL.nil, rfl, rfl, fun i d hi => absurd hi (Nat.not_lt_zero _)⟩
  · obtain ⟨B2, d, s2, hd, rd⟩ := hY i H2 v H3 B' hi q1.b q2.ex y
    obtain ⟨ps, hps, run1, run2⟩ := hp i d hd
    obtain ⟨g2, S2⟩ := q2.step s2
    have kL : ntB B2 L = none ∧ H3 L = some (.lst ws) := ⟨nt_none (s2.nw L q3 (by rw [q4]; exact fun z => nomatch z)), s2.h _ _ q4⟩
    refine g_all S2.ex S2.sl (rpN nt_ex rd) hps fun σ2 sd hl2 hs2 => ⟨?_, ?_⟩
    · refine (wipe_eq hl2 fun j hj => hs2 j fun z => hj (sub j z)).trans ?_
      exact wipe_eq (by rw [L2.wipe_length]) fun j hj => wipe_out hj
    have S3 := S2.slots sd
    refine run1 σ2 _ H3 S3 _ fun b M2 B3 H4 g3 S3' hb => ?_
    obtain ⟨e2, hb⟩ := hb
    subst e2
    subst hb
    have gg := (q1.trans g2).trans g3
    have k3 : B3 L = none ∧ H4 L = some (.lst ws) := ⟨g3.nw L _ kL.2 kL.1 nL (fun _ z => nomatch z), g3.h L _ kL.2 nL (fun _ z => nomatch z)⟩
    have S4 : StR X.K T (wipeS l (own.map (·.2))) M2 (L2.wipe σ (own.map (·.2))) B3 H4 := S3'.slots (q2.sl.mono (g2.b.trans g3.b))
    cases ht : t i d with
    | false => exact iteF ⟨B3, ws, es, lo ++ [none], gg, S4, k3.1, k3.2, q5.mono (g2.b.trans g3.b), by simp [q6], by simp [q7], ext q6 hd q8 (.inl ⟨ht, rfl⟩)⟩
    | true =>
      refine iteT fun s0 H0 C cl fp => run2 ht s0 H0 C cl fp σ2 _ H4 S3' _ (fun _ _ _ _ => False) (LamX.takes0) (fun ev ed M3 B4 H5 g4 S5 r5 pe => ?_) (fun _ _ _ _ _ _ _ _ _ _ _ z => z.elim)
      obtain ⟨e3, pe⟩ := pe
      subst e3
      have k5 : B4 L = none ∧ H5 L = some (.lst ws) := ⟨g4.nw L _ k3.2 k3.1 nL (fun _ z => nomatch z), g4.h L _ k3.2 nL (fun _ z => nomatch z)⟩
      have S6 : StR X.K T (wipeS l (own.map (·.2))) M3 (L2.wipe σ (own.map (·.2))) B4 H5 := S5.slots (S4.sl.mono g4.b)
      refine ⟨ws, k5.2, ?_, B4, ws ++ [ev], es ++ [ed], lo ++ [some ed], (gg.trans g4).poke hL, S6.poke k5.1 nL k5.2, k5.1, upd_same, (q5.mono ((g2.b.trans g3.b).trans g4.b)).append (RpL.cons r5 RpL.nil), by simp [q6], by simp [q7], ext q6 hd q8 (.inr ⟨ht, ed, rfl, pe⟩)⟩
      have h2 : es.length ≤ lo.length := by rw [q7]; exact List.length_filterMap_le _ _
      have h3 := q5.length
      have h4 : i < ds.length := (List.getElem?_eq_some_iff.mp hd).1
      omega
  · have Sg := (S1.slots S1.sl : StR X.K T l M1 σ B1 H1)
    have S7 : StR X.K T l M1 σ B' H' := q2.slots (S1.sl.mono q1.b)
    have gT := (g.trans q1)
    have hL0 : ∀ a, H a = none → True := fun _ _ => trivial
    refine kn (.ref L) (.lst es) M1 (upd B' L (.lst ws)) H' ?_ (S7.share q3 nL q4) (Rp.lst.mpr ⟨L, ws, rfl, upd_same, q5.mono (Ex.new q3)⟩) (k es ⟨lo, q6, q7, fun i d hd => q8 i d (List.getElem?_eq_some_iff.mp hd).1 hd⟩)
    exact g.trans (q1.share hL q3)
theorem ge_lcR {tt : TT} (hc : X.calm = true) (hN : X.N.Nodup) (ok : BlkOk X.N X.env.scope scope own)
    (hg : ∀ (s : Shared) (H : Hp) (C : Addr) (cl : List (Str × Addr)) (fp : List Addr), PG (X.blk s H scope (compEnvC scope cl C X.env) fp) tg (gAll X.K is)) (ht : ∀ (s : Shared) (H : Hp) (C : Addr) (cl : List (Str × Addr)) (fp : List Addr), PTs (X.blk s H scope (compEnvC scope cl C X.env) fp) ifs tt)
    (hs : ∀ x, foldedSetIterable iter X.env x = pure x) (sub : ∀ i ∈ is, i ∈ own.map (·.2))
    (h : GI X T tg iter l M (fun ds M1 => ds.length ≤ sizeLine ∧ ∃ (t : Nat → D → Bool) (Pe : Nat → D → D → Prop),
      (∀ i d, ds[i]? = some d → ∃ ps, partsOf is.length d = some ps ∧
        (∀ σ B H, StR X.K T (setAll (wipeS l (own.map (·.2))) is ps) M1 σ B H → ∀ Qv, KnB X.K T (setAll (wipeS l (own.map (·.2))) is ps) M1 σ B H Qv (fun b M2 => M2 = M1 ∧ b = t i d) → tt σ H Qv) ∧
        (t i d = true → ∀ s H0 C cl fp, GE (X.blk s H0 scope (compEnvC scope cl C X.env) fp) T elt (setAll (wipeS l (own.map (·.2))) is ps) M1 (fun e M2 => M2 = M1 ∧ Pe i d e) NX)) ∧
      ∀ es : List D, (∃ lo : List (Option D), lo.length = ds.length ∧ es = lo.filterMap id ∧ ∀ (i : Nat) (d : D), ds[i]? = some d → (t i d = false ∧ lo[i]? = some none) ∨ (t i d = true ∧ ∃ e, lo[i]? = some (some e) ∧ Pe i d e)) → Q (.lst es) M1) E) :
    GE X T (.ListComp elt [⟨tg, iter, ifs, 0⟩] scope pos) l M Q E := fun σ B H S Qv W tk kn kx => RE.of (pe_lc hc hN cI ok hg ht cBE hs) (lcR sub h S tk kn kx)
/-- .. by an invariant of what was found and of one's own things -/
theorem lcI {tt : TT}
    (sub : ∀ i ∈ is, i ∈ own.map (·.2))
    (h : GI X T tg iter l M (fun ds M1 => ds.length ≤ sizeLine ∧ ∃ I : Nat → List D → Mem → Prop, I 0 [] M1 ∧
      (∀ i d acc M2, ds[i]? = some d → I i acc M2 → ∃ ps, partsOf is.length d = some ps ∧
        (∀ σ B H, StR X.K T (setAll (wipeS l (own.map (·.2))) is ps) M2 σ B H → ∀ Qv, KnB X.K T (setAll (wipeS l (own.map (·.2))) is ps) M2 σ B H Qv (fun b M3 => (b = false → I (i + 1) acc M3) ∧
          (b = true → ∀ s H0 C cl fp, GE (X.blk s H0 scope (compEnvC scope cl C X.env) fp) T elt (setAll (wipeS l (own.map (·.2))) is ps) M3 (fun e M4 => I (i + 1) (acc ++ [e]) M4) NX)) → tt σ H Qv)) ∧
      ∀ acc M2, I ds.length acc M2 → Q (.lst acc) M2) E)
    {σ : L2.St} {B H : Hp} (S : StR X.K T l M σ B H) {Qv : VK} {W : WX} (tk : Takes X W) (kn : KnD X.K T l M σ B H Qv Q) (kx : KnX X.K T l M σ B H W E) :
    tLc (RI X tg iter) (gAll X.K is) tt (BE X scope elt) (own.map (·.2)) σ H Qv := by
  refine h σ B H S _ W tk (fun J ds M1 B1 H1 g S1 w ⟨hsz, I, i0, hp, k⟩ => ?_) kx
  obtain ⟨G, Yy, wk, hG, hY⟩ := w
  intro L hL
  have nL : L ∉ M1.ks := fun h => by
    obtain ⟨o', e⟩ := ks_at h
    obtain ⟨u', hu, _⟩ := (S1.mm.at_ L o' e).2.there
    rw [hL] at hu; cases hu
  have S0 : StR X.K T (wipeS l (own.map (·.2))) M1 (L2.wipe σ (own.map (·.2))) B1 H1 := S1.slots (S1.sl.wipe _)
  let Pv : Nat → Hp → Prop := fun n H' => ∃ (B' : Hp) (M2 : Mem) (vs : List V) (acc : List D), Go M1 B1 H1 M2 B' H' ∧ StR X.K T (wipeS l (own.map (·.2))) M2 (L2.wipe σ (own.map (·.2))) B' H' ∧ B' L = none ∧ L ∉ M2.ks ∧ H' L = some (.lst vs) ∧ RpL X.K B' acc vs ∧ acc.length ≤ n ∧ I n acc M2
  have out : ∀ {M2 M3 : Mem} {B2 H2 B3 H3 : Hp} {ws : List V}, Go M2 B2 H2 M3 B3 H3 → B2 L = none → L ∉ M2.ks → H2 L = some (.lst ws) → B3 L = none ∧ L ∉ M3.ks ∧ H3 L = some (.lst ws) := fun g h1 h2 h3 =>
    ⟨g.nw L _ h3 h1 h2 (fun _ z => nomatch z), (fun z => by
      obtain ⟨ps, e⟩ := g.fr L z h2 _ h3
      cases e), g.h L _ h3 h2 (fun _ z => nomatch z)⟩
  refine lc_it wk Pv ?_ (fun i H' _ ⟨B', _, _, _, q1, q2, _⟩ => hG H' (q1.b.trans q2.ex)) (fun i v H2 H3 hi ⟨B', M2, ws, acc, q1, q2, q3, q3', q4, q5, q6, q7⟩ y => ?_) (fun H' ⟨B', M2, ws, acc, q1, q2, q3, q3', q4, q5, q6, q7⟩ => ?_)
  · obtain ⟨g0, S0'⟩ := S0.stepH (Ex.new (o := .lst []) hL)
    exact ⟨B1, M1, [], [], g0, S0', S1.ex.back hL, nL, upd_same, RpL.nil, Nat.le_refl _, i0⟩
  · obtain ⟨B2, d, s2, hd, rd⟩ := hY i H2 v H3 B' hi q1.b q2.ex y
    obtain ⟨ps, hps, run1⟩ := hp i d acc M2 hd q7
    obtain ⟨g2, S2⟩ := q2.step s2
    have k2 := out g2 q3 q3' q4
    refine g_all S2.ex S2.sl (rpN nt_ex rd) hps fun σ2 sd hl2 hs2 => ⟨?_, ?_⟩
    · refine (wipe_eq hl2 fun j hj => hs2 j fun z => hj (sub j z)).trans ?_
      exact wipe_eq (by rw [L2.wipe_length]) fun j hj => wipe_out hj
    have S3 := S2.slots sd
    refine run1 σ2 _ H3 S3 _ fun b M3 B3 H4 g3 S3' hb => ?_
    have gg := (q1.trans g2).trans g3
    have k3 := out g3 k2.1 k2.2.1 k2.2.2
    have S4 : StR X.K T (wipeS l (own.map (·.2))) M3 (L2.wipe σ (own.map (·.2))) B3 H4 := S3'.slots (q2.sl.mono (g2.b.trans g3.b))
    cases b with
    | false => exact iteF ⟨B3, M3, ws, acc, gg, S4, k3.1, k3.2.1, k3.2.2, q5.mono (g2.b.trans g3.b), by omega, hb.1 rfl⟩
    | true =>
      refine iteT fun s0 H0 C cl fp => hb.2 rfl s0 H0 C cl fp σ2 _ H4 S3' _ (fun _ _ _ _ => False) (LamX.takes0) (fun ev ed M4 B4 H5 g4 S5 r5 pe => ?_) (fun _ _ _ _ _ _ _ _ _ _ _ z => z.elim)
      have k5 := out g4 k3.1 k3.2.1 k3.2.2
      have S6 : StR X.K T (wipeS l (own.map (·.2))) M4 (L2.wipe σ (own.map (·.2))) B4 H5 := S5.slots (S4.sl.mono g4.b)
      refine ⟨ws, k5.2.2, ?_, B4, M4, ws ++ [ev], acc ++ [ed], (gg.trans g4).poke hL, S6.poke k5.1 k5.2.1 k5.2.2, k5.1, k5.2.1, upd_same, (q5.mono ((g2.b.trans g3.b).trans g4.b)).append (RpL.cons r5 RpL.nil), by simp; omega, pe⟩
      have h3 := q5.length
      have h4 : i < ds.length := (List.getElem?_eq_some_iff.mp hd).1
      omega
  · have S7 : StR X.K T l M2 σ B' H' := q2.slots (S1.sl.mono q1.b)
    refine kn (.ref L) (.lst acc) M2 (upd B' L (.lst ws)) H' ?_ (S7.share q3 q3' q4) (Rp.lst.mpr ⟨L, ws, rfl, upd_same, q5.mono (Ex.new q3)⟩) (k acc M2 q7)
    exact g.trans (q1.share hL q3)
theorem ge_lcI {tt : TT} (hc : X.calm = true) (hN : X.N.Nodup) (ok : BlkOk X.N X.env.scope scope own)
    (hg : ∀ (s : Shared) (H : Hp) (C : Addr) (cl : List (Str × Addr)) (fp : List Addr), PG (X.blk s H scope (compEnvC scope cl C X.env) fp) tg (gAll X.K is)) (ht : ∀ (s : Shared) (H : Hp) (C : Addr) (cl : List (Str × Addr)) (fp : List Addr), PTs (X.blk s H scope (compEnvC scope cl C X.env) fp) ifs tt)
    (hs : ∀ x, foldedSetIterable iter X.env x = pure x)
    (core : ∀ σ B H, StR X.K T l M σ B H → ∀ (Qv : VK) (W : WX), Takes X W → KnD X.K T l M σ B H Qv Q → KnX X.K T l M σ B H W E → tLc (RI X tg iter) (gAll X.K is) tt (BE X scope elt) (own.map (·.2)) σ H Qv) :
    GE X T (.ListComp elt [⟨tg, iter, ifs, 0⟩] scope pos) l M Q E := fun σ B H S Qv W tk kn kx => RE.of (pe_lc hc hN cI ok hg ht cBE hs) (core σ B H S Qv W tk kn kx)
end
end Wx
set_option Elab.async false
set_option linter.all false
set_option maxRecDepth 100000
set_option maxHeartbeats 4000000
/-! Wx, part 5: a resolved expression belongs to a written one. -/
namespace Wx
open PySem L2 Fx PySem.Spec PyProof.Rows

/-! ### what follows of the forms -/
theorem ck_plain {c : Ck} {x : IE} {e : Expr} (h : ck c x e = true) : plainE e = true := by
  cases x <;> unfold ck at h <;> first
    | exact (Bool.and_eq_true_iff.mp h).1
    | (split at h <;> first | rfl | cases h)
theorem star_of {e : Expr} {es : List Expr} {env : Env} (h : plainE e = true) : starEach (e :: es) env = (false, eval e env) :: starEach es env := by
  cases e <;> first | rfl | cases h
theorem stars_of {c : Ck} {env : Env} {pos : Pos} : ∀ {xs : List IE} {es : List Expr}, ckL c xs es = true → (backTo pos (starEach es env)).any (·.1) = false
  | [], es, h => by
    unfold ckL at h
    split at h
    · rfl
    · cases h
  | x :: xs, es, h => by
    unfold ckL at h
    split at h
    · rename_i e es
      rw [Bool.and_eq_true] at h
      rw [star_of (ck_plain h.1)]
      show (false || (backTo pos (starEach es env)).any (·.1)) = false
      rw [stars_of h.2]; rfl
    · cases h
theorem all_plain {c : Ck} {env : Env} {pos : Pos} : ∀ {xs : List IE} {es : List Expr}, ckL c xs es = true → (backTo pos (starEach es env)).all (fun x => !x.1) = true
  | [], es, h => by
    unfold ckL at h
    split at h
    · rfl
    · cases h
  | x :: xs, es, h => by
    unfold ckL at h
    split at h
    · rename_i e es
      rw [Bool.and_eq_true] at h
      rw [star_of (ck_plain h.1)]
      show (!false && (backTo pos (starEach es env)).all (fun x => !x.1)) = true
      rw [all_plain h.2]; rfl
    · cases h
theorem plainIx_of {b : Expr} (h : plainE b = true) : PlainIx b := fun o i => by
  cases b <;> first | rfl | cases h
theorem folded_of {e : Expr} {env : Env} (h : plainE e = true) : ∀ x, foldedSetIterable e env x = pure x := fun x => by
  cases e <;> first | rfl | cases h
theorem mark_of {op : CmpOp} {e : Expr} (h : plainE e = true) : behindInMarks op e = false := by
  cases e <;> first | rfl | cases h
theorem base_of {o : Expr} {m : Str} {env : Env} (h : baseB o = true) : attributeBase o m env (eval o env) = eval o env := by
  unfold attributeBase
  split
  · rename_i x p pos
    have e : (x != ("super" : Str)) = true := by
      unfold baseB at h
      simpa [bne] using h
    rw [e]
    simp
  · rfl
end Wx
set_option Elab.async false
set_option linter.all false
set_option maxRecDepth 100000
set_option maxHeartbeats 4000000
/-! t[::-1] of a tuple. -/
namespace L2.HT
open PySem PySem.Spec PyProof.Rows L2
section
variable {prog : Program} {w : World} {A : Around} {E : Value → Shared → Prop} {s : Shared}
theorem adjust_rev (n : Nat) : Builtin.Slice.sliceAdjust none none (-1) (n : Int) = ((n : Int) - 1, -1) := by
  unfold Builtin.Slice.sliceAdjust
  simp
theorem places_rev (n : Nat) : Builtin.Slice.slicePlaces ((n : Int) - 1) (-1) (-1) = n := by
  unfold Builtin.Slice.slicePlaces
  have h1 : ¬ ((-1 : Int) > 0) := by decide
  simp only [h1, if_false]
  split
  · rw [show (- -1 : Int) = 1 by decide, Int.ediv_one]; omega
  · omega
theorem sliceApplied_rev {sl : Addr} {vl vu vs : Value} {n : Nat} {Q : Int × Int × Nat → Shared → Prop} (hs : s.heap.IsSliceOf sl vl vu vs) (pl : IsPart vl none) (pu : IsPart vu none) (ps : IsPart vs (some (-1)))
    (h : Q ((n : Int) - 1, -1, n) s) : wpAny (model prog w) A (Builtin.Slice.sliceApplied (.ref sl) (pure (n : Int))) Q E s := by
  obtain ⟨os, hos, hcs, hds⟩ := id hs
  unfold Builtin.Slice.sliceApplied Builtin.Slice.sliceFields
  refine wpAny_bind (wpAny_bind (wpAny_field hos hds (x := vl) rfl (wpAny_bind (wpAny_field hos hds (x := vu) rfl (wpAny_bind (wpAny_field hos hds (x := vs) rfl (wpAny_pure ?_)))))))
  refine wpAny_bind (_root_.HT.slicePart_ ps ?_)
  show wpAny _ _ (if ((-1 : Int) == 0) = true then _ else _) _ _ s
  rw [if_neg (by decide)]
  refine wpAny_bind (_root_.HT.slicePart_ pl (wpAny_bind (_root_.HT.slicePart_ pu (wpAny_bind (wpAny_pure ?_)))))
  show wpAny _ _ (match Builtin.Slice.sliceAdjust none none (-1) (n : Int) with | (lo, hi) => pure (lo, (-1 : Int), Builtin.Slice.slicePlaces lo hi (-1))) _ _ s
  rw [adjust_rev n]
  show wpAny _ _ (pure ((n : Int) - 1, (-1 : Int), Builtin.Slice.slicePlaces ((n : Int) - 1) (-1) (-1))) _ _ s
  rw [places_rev]
  exact wpAny_pure h
theorem pick_rev (xs : Array Value) : ((List.range xs.size).filterMap fun (k : Nat) => xs[(((xs.size : Int) - 1) + (k : Int) * (-1)).toNat]?).toArray = xs.toList.reverse.toArray := by
  have e : ((List.range xs.size).filterMap fun (k : Nat) => xs[(((xs.size : Int) - 1) + (k : Int) * (-1)).toNat]?) = (List.range xs.size).filterMap ((fun j : Nat => xs[j]?) ∘ fun k : Nat => xs.size - 1 - k) := by
    have gen : ∀ l : List Nat, (∀ k ∈ l, k < xs.size) → (l.filterMap fun (k : Nat) => xs[(((xs.size : Int) - 1) + (k : Int) * (-1)).toNat]?) = l.filterMap ((fun j : Nat => xs[j]?) ∘ fun k : Nat => xs.size - 1 - k) := by
      intro l
      induction l with
      | nil => intro _; rfl
      | cons k r ih =>
        intro h
        have hk := h k List.mem_cons_self
        have e1 : (((xs.size : Int) - 1) + (k : Int) * (-1)).toNat = xs.size - 1 - k := by omega
        rw [List.filterMap_cons, List.filterMap_cons, ih fun j hj => h j (List.mem_cons_of_mem _ hj), e1]
        rfl
    exact gen _ fun k hk => List.mem_range.mp hk
  rw [e, ← List.filterMap_map, PySem.W.krv_range, List.filterMap_reverse, PySem.W.krv_all]
theorem getItem_tuple_rev {t sl : Addr} {items : Array Value} {vl vu vs : Value} {Q : Value → Shared → Prop} (ht : IsTup s.heap t items) (hs : s.heap.IsSliceOf sl vl vu vs) (pl : IsPart vl none) (pu : IsPart vu none) (ps : IsPart vs (some (-1)))
    (h : Q (.ref s.heap.objs.size) { s with heap := s.heap.push { cls := .type "tuple", data := .seq items.toList.reverse.toArray } })
    (hsz : items.size ≤ sizeLine) : wpAny (model prog w) A (getItem (.ref t) (.ref sl)) Q E s := by
  have htake : sizeOk (.seq items.toList.reverse.toArray) := by
    show items.toList.reverse.toArray.size ≤ sizeLine
    rw [List.size_toArray, List.length_reverse, Array.length_toList]
    exact hsz
  obtain ⟨os, hos, hcs, hds⟩ := id hs
  have hTs : s.TypeIs (.ref sl) "slice" := ⟨os, hos, hcs⟩
  unfold getItem
  try with_reducible refine wpAny_holding ?_
  first | refine wpAny_bind (wpAny_pure ?_) | skip
  refine wpAny_bind (wpAny_sequenceKey ht.typeIs (by decide) ?_)
  refine wpAny_bind (wpAny_callSpecial?_slot (name := Str.ofString "__getitem__") ht.typeIs PyProof.Rows.slot_tuple_getitem
    (wpAny_call_entry PyProof.Rows.slot_tuple_getitem ht.typeIs entry_tuple_getitem ?_ (args_tuple_getitem _ _)))
  show wpAny _ _ (Builtin.Tuple.tupleItemsOf (.ref t) >>= _) _ _ s
  refine wpAny_bind (tupleItemsOf_ ht ?_)
  refine wpAny_bind (wpAny_typeOf hTs ?_)
  rw [if_pos (by decide)]
  refine wpAny_bind (sliceApplied_rev hs pl pu ps ?_)
  have hno : ¬ ((((items.size : Int) - 1) == 0 && (-1 : Int) == 1 && items.size == items.size) = true) := by simp
  show wpAny _ _ (if (((items.size : Int) - 1) == 0 && (-1 : Int) == 1 && items.size == items.size) = true then _ else _) _ _ s
  rw [if_neg hno, pick_rev]
  first
    | exact wpAny_bind (m := Builtin.Tuple.tupleExact _) (wpAny_newObj_type (wpAny_pure ⟨_, rfl, wpAny_pure h⟩) htake)
    | exact wpAny_bind (m := Builtin.Tuple.tupleExact _) (wpAny_newObj_type (wpAny_bind (wpAny_pure (wpAny_pure ⟨_, rfl, wpAny_pure h⟩))) htake)
    | exact wpAny_bind (wpAny_bind (m := Builtin.Tuple.tupleExact _) (wpAny_newObj_type (wpAny_pure (wpAny_pure ⟨_, rfl, wpAny_pure h⟩)) htake))
    | exact wpAny_bind (wpAny_bind (m := Builtin.Tuple.tupleExact _) (wpAny_newObj_type (wpAny_pure ⟨_, rfl, wpAny_pure h⟩) htake))
end
end L2.HT
namespace L2
open PySem PySem.Spec PyProof.Rows
section
variable {X : Cx}
def tRevT (K : PySem.W.Frag) (te : TE) : TE := fun σ H Q => te σ H fun x H1 => ∃ a xs, x = .ref a ∧ SqT K H1 a xs ∧ ∀ p, H1 p = none → Q (.ref p) (upd H1 p (.tup xs.reverse))
theorem pe_revT {e : Expr} {te : TE} {k : Nat} {p1 p2 p3 pos : Pos} (he : PE X e te) : PE X (.Subscript e (.Slice none none (some (.UnaryOp .USub (.Constant (.int 1) k p1) p2)) p3) pos) (tRevT X.K te) := by
  refine ⟨fun pins s σ H Q I h => ?_⟩
  refine Subscript_ (thn (he.run pins s σ H _ I h) fun v s1 ⟨x, H1, I1, r1, q1⟩ => ?_)
  obtain ⟨a, xs, ex, hx, q⟩ := q1
  subst ex
  cases r1
  have hst : PO X (some (.UnaryOp .USub (.Constant (.int 1) k p1) p2)) (tPart (tUn (rU fun i => .int (-i)) (tC (.int 1)))) := po_some (pe_un un_neg pe_int)
  refine wpAny_Slice (thn (po_none.run pins s1 σ H1 (fun o H2 => o = none ∧ H2 = H1) I1 ⟨rfl, rfl⟩) fun vl s2 ⟨l, H2, I2, pl, el, e2⟩ => ?_)
  subst el e2
  refine thn (po_none.run pins s2 σ H2 (fun o H3 => o = none ∧ H3 = H2) I2 ⟨rfl, rfl⟩) fun vu s3 ⟨u, H3, I3, pu, eu, e3⟩ => ?_
  subst eu e3
  refine thn (hst.run pins s3 σ H3 (fun o H4 => o = some (-1) ∧ H4 = H3) I3 ⟨1, rfl, -1, rfl, rfl, rfl⟩) fun vs s4 ⟨o, H4, I4, ps, eo, e4⟩ => ?_
  subst eo e4
  have I5 : Inv X pins σ H4 { s4 with heap := s4.heap.push { cls := .type "slice", data := .fields #[vl, vu, vs] } } := I4.kept (t' := s4.toks) fun b ob q => Heap.get?_push_of_some _ q
  obtain ⟨its, r, ht, hz⟩ := I5.tuple hx
  have hlen := r.length
  show wpAny (model X.prog X.w) X.A (subscriptTail e (.Slice none none (some (.UnaryOp .USub (.Constant (.int 1) k p1) p2)) p3) (.ref a) (.ref s4.heap.objs.size)) (EP X pins σ Q) X.xe { s4 with heap := s4.heap.push { cls := .type "slice", data := .fields #[vl, vu, vs] } }
  refine tail_any (ops := [.ref a, .ref s4.heap.objs.size]) ht.typeIs (PyProof.Rows.slot_tuple_getitem.lookup) ?_ (by with_unfolding_all rfl)
  refine HT.getItem_tuple_rev ht (Heap.IsSliceOf.new _ vl vu vs) pl pu ps ?_ (by rw [List.size_toArray]; omega)
  refine ⟨.ref _, _, I5.laid (t' := s4.toks) (o := .tup xs.reverse) (fun b ob q => Heap.get?_push_of_some _ q) (Nat.le_refl _) ?_, rfl, q _ (I5.hok.fresh (Nat.le_refl _))⟩
  exact ⟨by rw [List.length_reverse]; exact hz, its.reverse, r.reverse, by simpa using IsTup.new (s4.heap.push { cls := .type "slice", data := .fields #[vl, vu, vs] }) its.reverse.toArray⟩
end
end L2
set_option Elab.async false
set_option linter.all false
set_option maxRecDepth 100000
set_option maxHeartbeats 4000000
/-! Wx, part 6: what a resolved expression asks is enough for the written one. -/
namespace Wx
open PySem L2 Fx PySem.Spec PyProof.Rows
section
variable {X : Cx} {T : Tb} {e a b c o : Expr} {es : List Expr} {l : Sl} {M : Mem} {Q : PD} {E : PX} {pos p ap : Pos} {x m : Str} {id : String}
theorem ge_un {op : UnaryOp} (h : GE X T a l M (fun x M1 => UM X T (unaryOp op) x l M1 Q E) E) : GE X T (.UnaryOp op a pos) l M Q E := fun σ B H S Qv W tk kn kx pins s I =>
  UnaryOp_ (thn (h σ B H S (fun v H2 => ∃ x M2 B2, Go M B H M2 B2 H2 ∧ StR X.K T l M2 σ B2 H2 ∧ Rp X.K B2 x v ∧ UM X T (unaryOp op) x l M2 Q E) W tk (fun v x M1 B1 H1 g S1 r q => ⟨x, M1, B1, g, S1, r, q⟩) kx pins s I)
    fun v s1 ⟨y, H1, I1, r1, d, M2, B2, g, S2, r, u⟩ => u pins s1 σ B2 H1 y v I1 S2 r r1 Qv W tk (kn.step g) (kx.step g))
theorem ge_ix (h : GE X T a l M (fun x M1 => GE X T b l M1 (fun y M2 => XM X T x y l M2 Q E) E) E) (hs : PlainIx b) : GE X T (.Subscript a b pos) l M Q E := fun σ B H S Qv W tk kn kx pins s I =>
  Subscript_ (binT (cE (X := X) (e := a)) (cE (X := X) (e := b)) (R := fun v u H2 => ∃ x y M2 B2, Go M B H M2 B2 H2 ∧ StR X.K T l M2 σ B2 H2 ∧ Rp X.K B2 x v ∧ Rp X.K B2 y u ∧ XM X T x y l M2 Q E) I
    (h σ B H S _ W tk (fun v x M1 B1 H1 g S1 r q => q σ B1 H1 S1 _ W tk (fun u y M2 B2 H2 g2 S2 r2 q2 => ⟨x, y, M2, B2, g.trans g2, S2, r.mono g2.b, r2, q2⟩) (kx.step g)) kx)
    fun v u s2 x y H2 I2 rx ry ⟨d1, d2, M2, B2, g, S2, r1, r2, o⟩ => o a b pins s2 σ B2 H2 x y v u I2 S2 r1 r2 rx ry Qv W tk (kn.step g) (kx.step g) (hs _ _))
/-- an optional part -/
def GO (X : Cx) (T : Tb) (e : Option Expr) (l : Sl) (M : Mem) (Q : Option Int → Mem → Prop) (E : PX) : Prop :=
  ∀ σ B H, StR X.K T l M σ B H → ∀ (Qv : Option Int → Hp → Prop) W, Takes X W → (∀ i M' B' H', Go M B H M' B' H' → StR X.K T l M' σ B' H' → Q i M' → Qv i H') → KnX X.K T l M σ B H W E → RO X e σ H Qv
theorem go_none {Q : Option Int → Mem → Prop} (q : Q none M) : GO X T none l M Q E := fun σ B H S Qv W tk kn kx => ⟨_, po_none, kn none M B H Go.refl S q⟩
theorem go_some {Q : Option Int → Mem → Prop} (h : GE X T e l M (fun d M1 => ∃ i, d = .int i ∧ Q (some i) M1) E) : GO X T (some e) l M Q E := fun σ B H S Qv W tk kn kx =>
  ⟨_, po_some cE, h σ B H S _ W tk (fun v d M1 B1 H1 g S1 r ⟨i, e, q⟩ => by
    subst e
    exact ⟨i, Rp.int.mp r, kn (some i) M1 B1 H1 g S1 q⟩) kx⟩
theorem ge_sl {lo hi : Option Expr} {p2 : Pos} (h : GE X T a l M (fun x M1 => GO X T lo l M1 (fun i M2 => GO X T hi l M2 (fun j M3 => PM X T x i j l M3 Q E) E) E) E) : GE X T (.Subscript a (.Slice lo hi none p2) pos) l M Q E := fun σ B H S Qv W tk kn kx pins s I => by
  refine Subscript_ (thn (h σ B H S (fun v H3 => ∃ x M1 B1, Go M B H M1 B1 H3 ∧ StR X.K T l M1 σ B1 H3 ∧ Rp X.K B1 x v ∧ GO X T lo l M1 (fun i M2 => GO X T hi l M2 (fun j M3 => PM X T x i j l M3 Q E) E) E) W tk (fun v x M1 B1 H1 g S1 r q => ⟨x, M1, B1, g, S1, r, q⟩) kx pins s I) fun v s1 ⟨y, H1, I1, r1, d, M1, B1, g1, S1, rd, q1⟩ => ?_)
  refine wpAny_Slice (thn (cO.run pins s1 σ H1 _ I1 (q1 σ B1 H1 S1 (fun i H2 => ∃ M2 B2, Go M1 B1 H1 M2 B2 H2 ∧ StR X.K T l M2 σ B2 H2 ∧ GO X T hi l M2 (fun j M3 => PM X T d i j l M3 Q E) E) W tk (fun i M2 B2 H2 g2 S2 q2 => ⟨M2, B2, g2, S2, q2⟩) (kx.step g1)))
    fun vl s2 ⟨i, H2, I2, pl, M2, B2, g2, S2, q2⟩ => thn (cO.run pins s2 σ H2 _ I2 (q2 σ B2 H2 S2 (fun j H3 => ∃ M3 B3, Go M2 B2 H2 M3 B3 H3 ∧ StR X.K T l M3 σ B3 H3 ∧ PM X T d i j l M3 Q E) W tk (fun j M3 B3 H3 g3 S3 q3 => ⟨M3, B3, g3, S3, q3⟩) (kx.step (g1.trans g2))))
    fun vu s3 ⟨j, H3, I3, pu, M3, B3, g3, S3, q3⟩ => ?_)
  rw [evalPart_none]
  refine wpAny_pure ?_
  have I4 : Inv X pins σ H3 { s3 with heap := s3.heap.push { cls := .type "slice", data := .fields #[vl, vu, .none] } } := I3.kept (t' := s3.toks) fun b ob q => Heap.get?_push_of_some _ q
  have gg := (g1.trans g2).trans g3
  obtain ⟨T1, id, hT, ht, hg⟩ := q3 pins _ σ B3 H3 y v vl vu s3.heap.objs.size I4 S3 (rd.mono (g2.b.trans g3.b)) r1 (Heap.IsSliceOf.new ..) pl pu Qv W tk (kn.step gg) (kx.step gg)
  exact tail_any (value := a) (slice := .Slice lo hi none p2) (ops := [.ref s3.heap.objs.size, v]) ht hT hg (by with_unfolding_all rfl)
theorem ge_rev {k0 : Nat} {p1 p3 p4 : Pos} (h : GE X T a l M (fun x M1 => ∃ ds, x = .lst ds ∧ Q (.lst ds.reverse) M1) E) : GE X T (.Subscript a (.Slice none none (some (.UnaryOp .USub (.Constant (.int 1) k0 p1) p3)) p4) pos) l M Q E := fun σ B H S Qv W tk kn kx =>
  RE.of (pe_revL cE) (h σ B H S _ W tk (fun v d M1 B1 H1 g S1 r ⟨ds, e, q⟩ => by
    subst e
    obtain ⟨a, vs, rfl, h1, h2⟩ := Rp.lst.mp r
    refine ⟨a, vs, rfl, SqL.of (S1.ex _ _ h1), fun p hp => ?_⟩
    obtain ⟨g2, S2⟩ := S1.step (Step.alloc (o := .lst vs.reverse) S1.ex hp)
    exact kn _ _ M1 _ _ (g.trans g2) S2 (rpN nt_ex (Rp.lst.mpr ⟨p, vs.reverse, rfl, upd_same, h2.reverse.mono (Ex.new (S1.ex.back hp))⟩)) q) kx)
theorem ge_revT {k0 : Nat} {p1 p3 p4 : Pos} (h : GE X T a l M (fun x M1 => ∃ ds, x = .tup ds ∧ Q (.tup ds.reverse) M1) E) : GE X T (.Subscript a (.Slice none none (some (.UnaryOp .USub (.Constant (.int 1) k0 p1) p3)) p4) pos) l M Q E := fun σ B H S Qv W tk kn kx =>
  RE.of (pe_revT cE) (h σ B H S _ W tk (fun v d M1 B1 H1 g S1 r ⟨ds, e, q⟩ => by
    subst e
    obtain ⟨a, vs, rfl, h1, h2⟩ := Rp.tup.mp r
    refine ⟨a, vs, rfl, S1.ex.t h1, fun p hp => ?_⟩
    obtain ⟨g2, S2⟩ := S1.step (Step.alloc (o := .tup vs.reverse) S1.ex hp)
    exact kn _ _ M1 _ _ (g.trans g2) S2 (rpN nt_ex (Rp.tup.mpr ⟨p, vs.reverse, rfl, SqT.of upd_same, h2.reverse.mono (Ex.new (S1.ex.back hp))⟩)) q) kx)
theorem ge_att {f : Str} (h : GE X T o l M (fun x M1 => AM X T f x l M1 Q E) E) (hb : attributeBase o f X.env (eval o X.env) = eval o X.env) : GE X T (.Attribute o f pos) l M Q E := fun σ B H S Qv W tk kn kx pins s I =>
  attr_of hb (thn (h σ B H S (fun v H2 => ∃ x M2 B2, Go M B H M2 B2 H2 ∧ StR X.K T l M2 σ B2 H2 ∧ Rp X.K B2 x v ∧ AM X T f x l M2 Q E) W tk (fun v x M1 B1 H1 g S1 r q => ⟨x, M1, B1, g, S1, r, q⟩) kx pins s I)
    fun v s1 ⟨y, H1, I1, r1, d, M2, B2, g, S2, r, u⟩ => u pins s1 σ B2 H1 y v I1 S2 r r1 Qv W tk (kn.step g) (kx.step g))
/-- the arguments, then a call -/
theorem args_call {f : Value} (h : GL X T es l M (fun ds M1 => CV X T X.A f ds l M1 Q E) E) {σ : L2.St} {B H : Hp} (S : StR X.K T l M σ B H) {Qv : VK} {W : WX} (tk : Takes X W) (kn : KnD X.K T l M σ B H Qv Q) (kx : KnX X.K T l M σ B H W E) {pins : List (Addr × Obj)} {s : Shared} (I : Inv X pins σ H s) :
    wpAny (model X.prog X.w) X.A (spliced (backTo pos (starEach es X.env))) (fun us s1 => X.K.In s1.heap ∧ wpAny (model X.prog X.w) X.A (call f us) (EP X pins σ Qv) X.xe s1) X.xe s :=
  thn (h σ B H S (fun vs H2 => ∃ ds M2 B2, Go M B H M2 B2 H2 ∧ StR X.K T l M2 σ B2 H2 ∧ RpL X.K B2 ds vs ∧ CV X T X.A f ds l M2 Q E) W tk (fun v x M1 B1 H1 g S1 r q => ⟨x, M1, B1, g, S1, r, q⟩) kx pos pins s I)
    fun us s1 ⟨vs, H1, I1, r1, ds, M2, B2, g, S2, r, u⟩ => ⟨I1.kIn, u pins s1 σ B2 H1 vs us I1 S2 r r1 Qv W tk (kn.step g) (kx.step g)⟩
theorem ge_cu {f : Value} (h : GL X T (e :: es) l M (fun ds M1 => CV X T X.A f ds l M1 Q E) E) (hg : Gl X x) (hm : X.mg x = some f) (hk : PySem.W.keepIn X.K f = true) (hdb : (x == ("__debug__" : Str)) = false)
    (he : starEach (e :: es) X.env = (false, eval e X.env) :: starEach es X.env) (hpl : (backTo pos (starEach es X.env)).any (·.1) = false) : GE X T (.Call (.Name x p) (e :: es) [] pos) l M Q E := fun σ B H S Qv W tk kn kx pins s I =>
  wpAny_Call_Name_kw (ld_glob I hg hm (PySem.W.callWith_K (h₀ := X.base) I.ok.mod.kin hk (args_call (pos := pos) h S tk kn kx I) he hpl) hdb)
theorem ge_cu0 {f : Value} (h : CV X T X.A f [] l M Q E) (hg : Gl X x) (hm : X.mg x = some f) (hk : PySem.W.keepIn X.K f = true) (hdb : (x == ("__debug__" : Str)) = false) : GE X T (.Call (.Name x p) [] [] pos) l M Q E := fun σ B H S Qv W tk kn kx pins s I =>
  wpAny_Call_Name_kw (ld_glob I hg hm (PySem.W.callWith_K0 I.kIn hk (h pins s σ B H [] [] I S RpL.nil .nil Qv W tk kn kx)) hdb)
theorem ge_cb (h : GL X T (e :: es) l M (fun ds M1 => CV X T X.A (.builtin id) ds l M1 Q E) E) (hg : Gl X x) (hm : X.mg x = none) (hv : bootBuiltins x = some (.builtin id)) (hn : x ≠ "__name__") (hdb : (x == ("__debug__" : Str)) = false)
    (he : starEach (e :: es) X.env = (false, eval e X.env) :: starEach es X.env) (hpl : (backTo pos (starEach es X.env)).any (·.1) = false) : GE X T (.Call (.Name x p) (e :: es) [] pos) l M Q E := fun σ B H S Qv W tk kn kx pins s I =>
  wpAny_Call_Name_kw (ld_blt I hg hm hv (PyProof.Rows.callWith_builtin1 (thn (args_call (pos := pos) h S tk kn kx I) fun us s1 q => q.2) he hpl) hn hdb)
theorem ge_ct (h : GL X T (e :: es) l M (fun ds M1 => CV X T X.A (.type id) ds l M1 Q E) E) (hg : Gl X x) (hm : X.mg x = none) (hv : bootBuiltins x = some (.type id)) (hn : x ≠ "__name__") (hdb : (x == ("__debug__" : Str)) = false)
    (he : starEach (e :: es) X.env = (false, eval e X.env) :: starEach es X.env) (hpl : (backTo pos (starEach es X.env)).any (·.1) = false) : GE X T (.Call (.Name x p) (e :: es) [] pos) l M Q E := fun σ B H S Qv W tk kn kx pins s I =>
  wpAny_Call_Name_kw (ld_blt I hg hm hv (PyProof.Rows.callWith_type1 (thn (args_call (pos := pos) h S tk kn kx I) fun us s1 q => q.2) he hpl) hn hdb)
theorem ge_ct0 (h : CV X T X.A (.type id) [] l M Q E) (hg : Gl X x) (hm : X.mg x = none) (hv : bootBuiltins x = some (.type id)) (hn : x ≠ "__name__") (hdb : (x == ("__debug__" : Str)) = false) : GE X T (.Call (.Name x p) [] [] pos) l M Q E := fun σ B H S Qv W tk kn kx pins s I =>
  wpAny_Call_Name_kw (ld_blt I hg hm hv (PyProof.Rows.callWith_type0 (h pins s σ B H [] [] I S RpL.nil .nil Qv W tk kn kx)) hn hdb)
/-- the method of one's own class is looked up -/
theorem mt_get {K : PySem.W.Frag} {σ : L2.St} {B H : Hp} {d : D} {v : V} {f : Addr} (S : StR K T l M σ B H) (r : Rp K B d v) (h : MtOk K d M m f) : ∃ a C dx gs, v = .ref a ∧ H a = some (.ins C dx gs) ∧ Cls K C ∧ Meth K C m f ∧ gs.lookup m = none := by
  rcases h with ⟨C, fs, rfl, c, k, n⟩ | ⟨q, C, fs, rfl, hq, c, k, n⟩
  · obtain ⟨a, dx, gs, rfl, h1, h2⟩ := Rp.obj.mp r
    exact ⟨a, C, dx, gs, rfl, S.ex _ _ h1, c, k, h2.none n⟩
  · obtain ⟨_, dx, gs, h1, h2⟩ := S.mm.at_ q _ hq
    exact ⟨q, C, dx, gs, by simpa only [Rp] using r, h1, c, k, h2.none n⟩
theorem eval_meth {kws : List Keyword} {env : Env} (hb : attributeBase o m env (eval o env) = eval o env) (hall : (backTo pos (starEach es env)).all (fun x => !x.1) = true) (hkw : (backToKw pos (keywordEach kws env)).all (fun x => x.1.isSome) = true) (hlen : es.length + kws.length < 20) (hline : (ap.endLine == pos.line) = true) :
    eval (.Call (.Attribute o m ap) es kws pos) env = (do
      let ov ← eval o env
      standAt ap.atName
      let (f, first) ← holding [ov] (getMethod ov m (do return (← importBound o env).getD true))
      callWith pos f first (backTo pos (starEach es env)) (backToKw pos (keywordEach kws env))) := by
  rw [arm_eval_Call, hb]
  have few : methodCallForm (es.length + kws.length) (backTo pos (starEach es env)) (backToKw pos (keywordEach kws env)) = true := by
    unfold methodCallForm
    rw [hall, hkw]
    simp only [Bool.true_and, decide_eq_true_eq]
    split <;> omega
  unfold methodCall calleeOf methodCallPos
  rw [few, hline]
  rfl
theorem ge_mu (h : GE X T o l M (fun x M1 => ∃ f, MtOk X.K x M1 m f ∧ GL X T (e :: es) l M1 (fun ds M2 => CV X T X.A (.ref f) (x :: ds) l M2 Q E) E) E) (hb : attributeBase o m X.env (eval o X.env) = eval o X.env)
    (he : starEach (e :: es) X.env = (false, eval e X.env) :: starEach es X.env) (hpl : (backTo pos (starEach es X.env)).any (·.1) = false) (hall : (backTo pos (starEach (e :: es) X.env)).all (fun x => !x.1) = true) (hlen : (e :: es).length < 20) (hline : (ap.endLine == pos.line) = true) :
    GE X T (.Call (.Attribute o m ap) (e :: es) [] pos) l M Q E := fun σ B H S Qv W tk kn kx pins s I => by
  refine PySem.W.methodCall_KW (thn (h σ B H S (fun v H2 => ∃ x M1 B1, Go M B H M1 B1 H2 ∧ StR X.K T l M1 σ B1 H2 ∧ Rp X.K B1 x v ∧ ∃ f, MtOk X.K x M1 m f ∧ GL X T (e :: es) l M1 (fun ds M2 => CV X T X.A (.ref f) (x :: ds) l M2 Q E) E) W tk (fun v x M1 B1 H1 g S1 r q => ⟨x, M1, B1, g, S1, r, q⟩) kx pins s I) fun u s1 ⟨v, H1, I1, r1, x, M1, B1, g1, S1, rd, f, hm, q⟩ => ?_) (eval_meth hb hall rfl hlen hline)
  obtain ⟨a, C, dx, gs, rfl, h1, c, k, n⟩ := mt_get S1 rd hm
  obtain rfl : u = Value.ref a := r1
  refine getmeth_ok I1 h1 c k n ?_
  refine PySem.W.callWith_K (first := [.ref a]) (h₀ := X.base) I.ok.mod.kin k.kp (thn (q σ B1 H1 S1 (fun vs H2 => ∃ ds M2 B2, Go M1 B1 H1 M2 B2 H2 ∧ StR X.K T l M2 σ B2 H2 ∧ RpL X.K B2 ds vs ∧ CV X T X.A (.ref f) (x :: ds) l M2 Q E) W tk (fun v x M1 B1 H1 g S1 r q => ⟨x, M1, B1, g, S1, r, q⟩) (kx.step g1) pos pins s1 I1)
    fun us s2 ⟨vs, H2, I2, r2, ds, M2, B2, g2, S2, rds, u⟩ => ⟨I2.kIn, ?_⟩) he hpl
  exact u pins s2 σ B2 H2 (.ref a :: vs) (.ref a :: us) I2 S2 (RpL.cons (rd.mono g2.b) rds) (.cons rfl r2) Qv W tk (kn.step (g1.trans g2)) (kx.step (g1.trans g2))
theorem ge_mu0 (h : GE X T o l M (fun x M1 => ∃ f, MtOk X.K x M1 m f ∧ CV X T X.A (.ref f) [x] l M1 Q E) E) (hb : attributeBase o m X.env (eval o X.env) = eval o X.env) (hline : (ap.endLine == pos.line) = true) :
    GE X T (.Call (.Attribute o m ap) [] [] pos) l M Q E := fun σ B H S Qv W tk kn kx pins s I => by
  refine PySem.W.methodCall_KW (thn (h σ B H S (fun v H2 => ∃ x M1 B1, Go M B H M1 B1 H2 ∧ StR X.K T l M1 σ B1 H2 ∧ Rp X.K B1 x v ∧ ∃ f, MtOk X.K x M1 m f ∧ CV X T X.A (.ref f) [x] l M1 Q E) W tk (fun v x M1 B1 H1 g S1 r q => ⟨x, M1, B1, g, S1, r, q⟩) kx pins s I) fun u s1 ⟨v, H1, I1, r1, x, M1, B1, g1, S1, rd, f, hm, q⟩ => ?_) (eval_meth hb rfl rfl (by decide) hline)
  obtain ⟨a, C, dx, gs, rfl, h1, c, k, n⟩ := mt_get S1 rd hm
  obtain rfl : u = Value.ref a := r1
  refine getmeth_ok I1 h1 c k n ?_
  exact PySem.W.callWith_K0 (first := [.ref a]) I1.kIn k.kp (q pins s1 σ B1 H1 [.ref a] [.ref a] I1 S1 (RpL.cons rd RpL.nil) (.cons rfl .nil) Qv W tk (kn.step g1) (kx.step g1))
/-- a built-in type's method -/
theorem ge_mb (h : GE X T o l M (fun x M1 => ∃ t id, MbOk t m id ∧ KdM M1 x t ∧ GL X T (e :: es) l M1 (fun ds M2 => BM X T id x ds l M2 Q E) E) E) (hb : attributeBase o m X.env (eval o X.env) = eval o X.env)
    (he : starEach (e :: es) X.env = (false, eval e X.env) :: starEach es X.env) (hpl : (backTo pos (starEach es X.env)).any (·.1) = false) (hall : (backTo pos (starEach (e :: es) X.env)).all (fun x => !x.1) = true) (hlen : (e :: es).length < 20) (hline : (ap.endLine == pos.line) = true) :
    GE X T (.Call (.Attribute o m ap) (e :: es) [] pos) l M Q E := fun σ B H S Qv W tk kn kx pins s I => by
  refine wpAny_Call_method_late hb ?_ hline rfl (thn (h σ B H S (fun v H2 => ∃ x M1 B1, Go M B H M1 B1 H2 ∧ StR X.K T l M1 σ B1 H2 ∧ Rp X.K B1 x v ∧ ∃ t id, MbOk t m id ∧ KdM M1 x t ∧ GL X T (e :: es) l M1 (fun ds M2 => BM X T id x ds l M2 Q E) E) W tk (fun v x M1 B1 H1 g S1 r q => ⟨x, M1, B1, g, S1, r, q⟩) kx pins s I) fun u s1 ⟨v, H1, I1, r1, x, M1, B1, g1, S1, rd, t, id, hm, kd, q⟩ => ?_)
  · rw [hall]
    refine Bool.and_eq_true_iff.mpr ⟨rfl, decide_eq_true ?_⟩
    show (e :: es).length + 0 + 0 < 30
    omega
  obtain ⟨h1, h2⟩ := tyV_is I1 r1 (kd.ty S1 rd)
  refine ⟨t, id, hm.pa, hm.slot, hm.ty, h1, h2, ?_⟩
  have hA := q σ B1 H1 S1 (fun vs H2 => ∃ ds M2 B2, Go M1 B1 H1 M2 B2 H2 ∧ StR X.K T l M2 σ B2 H2 ∧ RpL X.K B2 ds vs ∧ BM X T id x ds l M2 Q E) W tk (fun v x M1 B1 H1 g S1 r q => ⟨x, M1, B1, g, S1, r, q⟩) (kx.step g1) pos pins s1 I1
  rw [he] at hA ⊢
  refine Calls.callWith_builtin (by show (false || (backTo pos (starEach es X.env)).any (·.1)) = false; rw [hpl] <;> rfl) (Calls.evalArgs_plain ?_)
  exact thn hA fun us s2 ⟨vs, H2, I2, r2, ds, M2, B2, g2, S2, rds, w⟩ => w pins s2 σ B2 H2 v u vs us I2 S2 (rd.mono g2.b) r1 rds r2 Qv W tk (kn.step (g1.trans g2)) (kx.step (g1.trans g2))
theorem ge_mb0 (h : GE X T o l M (fun x M1 => ∃ t id, MbOk t m id ∧ KdM M1 x t ∧ BM X T id x [] l M1 Q E) E) (hb : attributeBase o m X.env (eval o X.env) = eval o X.env) (hline : (ap.endLine == pos.line) = true) :
    GE X T (.Call (.Attribute o m ap) [] [] pos) l M Q E := fun σ B H S Qv W tk kn kx pins s I => by
  refine wpAny_Call_method0_late hb hline (thn (h σ B H S (fun v H2 => ∃ x M1 B1, Go M B H M1 B1 H2 ∧ StR X.K T l M1 σ B1 H2 ∧ Rp X.K B1 x v ∧ ∃ t id, MbOk t m id ∧ KdM M1 x t ∧ BM X T id x [] l M1 Q E) W tk (fun v x M1 B1 H1 g S1 r q => ⟨x, M1, B1, g, S1, r, q⟩) kx pins s I) fun u s1 ⟨v, H1, I1, r1, x, M1, B1, g1, S1, rd, t, id, hm, kd, q⟩ => ?_)
  obtain ⟨h1, h2⟩ := tyV_is I1 r1 (kd.ty S1 rd)
  exact ⟨t, id, hm.pa, hm.slot, hm.ty, h1, h2, Calls.callWith_builtin rfl (PySem.evalArgs_none (q pins s1 σ B1 H1 v u [] [] I1 S1 rd r1 RpL.nil .nil Qv W tk (kn.step g1) (kx.step g1)))⟩
/-- a op b op' c -/
theorem ge_cm2 {op op' : CmpOp} (h : GE X T a l M (fun x M1 => GE X T b l M1 (fun y M2 => OM X T (compareOp op) x y l M2 (kB fun t M3 => (t = false → Q (.bl false) M3) ∧ (t = true → GE X T c l M3 (fun z M4 => OM X T (compareOp op') y z l M4 Q E) E)) E) E) E) (hm : lastMarks [op, op'] [b, c] = false) :
    GE X T (.Compare a [op, op'] [b, c] pos) l M Q E := fun σ B H S Qv W tk kn kx pins s I => by
  refine Compare_chain (thn (h σ B H S (fun v H1 => ∃ x M1 B1, Go M B H M1 B1 H1 ∧ StR X.K T l M1 σ B1 H1 ∧ Rp X.K B1 x v ∧ GE X T b l M1 (fun y M2 => OM X T (compareOp op) x y l M2 (kB fun t M3 => (t = false → Q (.bl false) M3) ∧ (t = true → GE X T c l M3 (fun z M4 => OM X T (compareOp op') y z l M4 Q E) E)) E) E) W tk (fun v x M1 B1 H1 g S1 r q => ⟨x, M1, B1, g, S1, r, q⟩) kx pins s I)
    fun v s1 ⟨x, H1, I1, r1, dx, M1, B1, g1, S1, rdx, q1⟩ => chain_link (thn (q1 σ B1 H1 S1 (fun u H2 => ∃ y M2 B2, Go M1 B1 H1 M2 B2 H2 ∧ StR X.K T l M2 σ B2 H2 ∧ Rp X.K B2 y u ∧ OM X T (compareOp op) dx y l M2 (kB fun t M3 => (t = false → Q (.bl false) M3) ∧ (t = true → GE X T c l M3 (fun z M4 => OM X T (compareOp op') y z l M4 Q E) E)) E) W tk (fun v x M1 B1 H1 g S1 r q => ⟨x, M1, B1, g, S1, r, q⟩) (kx.step g1) pins s1 I1)
    fun u s2 ⟨y, H2, I2, r2, dy, M2, B2, g2, S2, rdy, q2⟩ => thn (q2 pins s2 σ B2 H2 x y v u I2 S2 (rdx.mono g2.b) rdy r1 r2 (fun w H3 => ∃ t M3 B3, w = .bl t ∧ Go M2 B2 H2 M3 B3 H3 ∧ StR X.K T l M3 σ B3 H3 ∧ (t = false → Q (.bl false) M3) ∧ (t = true → GE X T c l M3 (fun z M4 => OM X T (compareOp op') dy z l M4 Q E) E)) W tk (fun w d M3 B3 H3 g3 S3 r3 ⟨t, e, q⟩ => by
      subst e
      exact ⟨t, M3, B3, Rp.bl.mp r3, g3, S3, q⟩) (kx.step (g1.trans g2))) fun d s3 ⟨z, H3, I3, r3, t, M3, B3, e, g3, S3, q3⟩ => ?_))  hm
  subst e
  cases r3
  refine wpAny_truthy_bool ?_
  have gg := (g1.trans g2).trans g3
  cases t with
  | false => exact iteF (B := EP X pins σ Qv _ s3) ⟨.bl false, H3, I3, rfl, kn _ _ M3 B3 H3 gg S3 (Rp.bl.mpr rfl) (q3.1 rfl)⟩
  | true =>
    refine ite_tt (chain_last (thn (q3.2 rfl σ B3 H3 S3 (fun w H4 => ∃ z M4 B4, Go M3 B3 H3 M4 B4 H4 ∧ StR X.K T l M4 σ B4 H4 ∧ Rp X.K B4 z w ∧ OM X T (compareOp op') dy z l M4 Q E) W tk (fun v x M1 B1 H1 g S1 r q => ⟨x, M1, B1, g, S1, r, q⟩) (kx.step gg) pins s3 I3)
      fun w s4 ⟨z, H4, I4, r4, dz, M4, B4, g4, S4, rdz, q4⟩ => q4 pins s4 σ B4 H4 y z u w I4 S4 ((rdy.mono g3.b).mono g4.b) rdz r2 r4 Qv W tk (kn.step (gg.trans g4)) (kx.step (gg.trans g4))))
theorem gt_cm2 {op op' : CmpOp} {Q : Bool → Mem → Prop} (h : GE X T a l M (fun x M1 => GE X T b l M1 (fun y M2 => OM X T (compareOp op) x y l M2 (kB fun t M3 => (t = false → Q false M3) ∧ (t = true → GE X T c l M3 (fun z M4 => OM X T (compareOp op') y z l M4 (kB Q) E) E)) E) E) E) (hm : lastMarks [op, op'] [b, c] = false) :
    GT X T (.Compare a [op, op'] [b, c] pos) l M Q E := fun σ B H S Qv W tk kn kx pins s I => by
  refine isTrue_chain (thn (h σ B H S (fun v H1 => ∃ x M1 B1, Go M B H M1 B1 H1 ∧ StR X.K T l M1 σ B1 H1 ∧ Rp X.K B1 x v ∧ GE X T b l M1 (fun y M2 => OM X T (compareOp op) x y l M2 (kB fun t M3 => (t = false → Q false M3) ∧ (t = true → GE X T c l M3 (fun z M4 => OM X T (compareOp op') y z l M4 (kB Q) E) E)) E) E) W tk (fun v x M1 B1 H1 g S1 r q => ⟨x, M1, B1, g, S1, r, q⟩) kx pins s I)
    fun v s1 ⟨x, H1, I1, r1, dx, M1, B1, g1, S1, rdx, q1⟩ => test_link (thn (q1 σ B1 H1 S1 (fun u H2 => ∃ y M2 B2, Go M1 B1 H1 M2 B2 H2 ∧ StR X.K T l M2 σ B2 H2 ∧ Rp X.K B2 y u ∧ OM X T (compareOp op) dx y l M2 (kB fun t M3 => (t = false → Q false M3) ∧ (t = true → GE X T c l M3 (fun z M4 => OM X T (compareOp op') y z l M4 (kB Q) E) E)) E) W tk (fun v x M1 B1 H1 g S1 r q => ⟨x, M1, B1, g, S1, r, q⟩) (kx.step g1) pins s1 I1)
    fun u s2 ⟨y, H2, I2, r2, dy, M2, B2, g2, S2, rdy, q2⟩ => thn (q2 pins s2 σ B2 H2 x y v u I2 S2 (rdx.mono g2.b) rdy r1 r2 (fun w H3 => ∃ t M3 B3, w = .bl t ∧ Go M2 B2 H2 M3 B3 H3 ∧ StR X.K T l M3 σ B3 H3 ∧ (t = false → Q false M3) ∧ (t = true → GE X T c l M3 (fun z M4 => OM X T (compareOp op') dy z l M4 (kB Q) E) E)) W tk (fun w d M3 B3 H3 g3 S3 r3 ⟨t, e, q⟩ => by
      subst e
      exact ⟨t, M3, B3, Rp.bl.mp r3, g3, S3, q⟩) (kx.step (g1.trans g2))) fun d s3 ⟨z, H3, I3, r3, t, M3, B3, e, g3, S3, q3⟩ => ?_)) hm
  subst e
  cases r3
  refine wpAny_truthy_bool ?_
  have gg := (g1.trans g2).trans g3
  cases t with
  | false => exact iteF (B := TP X pins σ Qv _ s3) ⟨H3, I3, kn false M3 B3 H3 gg S3 (q3.1 rfl)⟩
  | true =>
    refine ite_tt (test_last (thn (q3.2 rfl σ B3 H3 S3 (fun w H4 => ∃ z M4 B4, Go M3 B3 H3 M4 B4 H4 ∧ StR X.K T l M4 σ B4 H4 ∧ Rp X.K B4 z w ∧ OM X T (compareOp op') dy z l M4 (kB Q) E) W tk (fun v x M1 B1 H1 g S1 r q => ⟨x, M1, B1, g, S1, r, q⟩) (kx.step gg) pins s3 I3)
      fun w s4 ⟨z, H4, I4, r4, dz, M4, B4, g4, S4, rdz, q4⟩ => thn (q4 pins s4 σ B4 H4 y z u w I4 S4 ((rdy.mono g3.b).mono g4.b) rdz r2 r4 (fun w H5 => ∃ t, w = .bl t ∧ Qv t H5) W tk (fun w d M5 B5 H5 g5 S5 r5 ⟨t, e, q⟩ => by
        subst e
        exact ⟨t, Rp.bl.mp r5, kn t M5 B5 H5 ((gg.trans g4).trans g5) S5 q⟩) (kx.step (gg.trans g4))) fun d s5 ⟨z, H5, I5, r5, t, e, q⟩ => ?_))
    subst e
    cases r5
    exact wpAny_truthy_bool ⟨H5, I5, q⟩
/-! ### keywords -/
variable {kws : List Keyword} {ks : List Str}
def RKw (X : Cx) (kws : List Keyword) (σ : L2.St) (H : Hp) (Q : List V → Hp → Prop) : Prop := ∀ pos pins s, Inv X pins σ H s → wpAny (model X.prog X.w) X.A (evalAll ((backToKw pos (keywordEach kws X.env)).map (·.2))) (AP X pins σ Q) X.xe s
def GKw (X : Cx) (T : Tb) (kws : List Keyword) (l : Sl) (M : Mem) (Q : List D → Mem → Prop) (E : PX) : Prop :=
  ∀ σ B H, StR X.K T l M σ B H → ∀ Qv W, Takes X W → KnL X.K T l M σ B H Qv Q → KnX X.K T l M σ B H W E → RKw X kws σ H Qv
theorem cKw : PK X kws (RKw X kws) := ⟨fun pos pins s _ _ _ I h => h pos pins s I⟩
theorem gk_nil {Q : List D → Mem → Prop} (q : Q [] M) : GKw X T [] l M Q E := fun σ B H S Qv W tk kn kx pos pins s I => pk_nil.run pos pins s σ H _ I (kn [] [] M B H Go.refl S RpL.nil q)
theorem gk_cons {Q : List D → Mem → Prop} {nm : Option Str} {kp : Pos} (h : GE X T e l M (fun d M1 => GKw X T kws l M1 (fun ds M2 => Q (d :: ds) M2) E) E) : GKw X T (⟨nm, e, kp⟩ :: kws) l M Q E := fun σ B H S Qv W tk kn kx pos pins s I =>
  (pk_cons cE cKw).run pos pins s σ H _ I (h σ B H S _ W tk (fun v d M1 B1 H1 g S1 r q => q σ B1 H1 S1 _ W tk (fun vs ds M2 B2 H2 g2 S2 r2 q2 => kn (v :: vs) (d :: ds) M2 B2 H2 (g.trans g2) S2 (RpL.cons (r.mono g2.b) r2) q2) (kx.step g)) kx)
theorem GKw.imp {Q Q' : List D → Mem → Prop} (h : GKw X T kws l M Q E) (q : ∀ d M', Q d M' → Q' d M') : GKw X T kws l M Q' E := fun σ B H S Qv W tk kn kx =>
  h σ B H S Qv W tk (fun v d M' B' H' g S' r z => kn v d M' B' H' g S' r (q d M' z)) kx
/-- the keywords' values behind the arguments', then the call -/
theorem kw_call {f : Value} {ds : List D} (h : GKw X T kws l M (fun zs M2 => CVK X T f ds ks zs l M2 Q E) E) {σ : L2.St} {B H : Hp} (S : StR X.K T l M σ B H) {Qv : VK} {W : WX} (tk : Takes X W) (kn : KnD X.K T l M σ B H Qv Q) (kx : KnX X.K T l M σ B H W E) {pins : List (Addr × Obj)} {s : Shared} (I : Inv X pins σ H s)
    {vs : List V} {us : List Value} (r : RpL X.K B ds vs) (rv : Vals vs us) : wpAny (model X.prog X.w) X.A (evalAll ((backToKw pos (keywordEach kws X.env)).map (·.2))) (fun wvs s1 => X.K.In s1.heap ∧ wpAny (model X.prog X.w) X.A (call f us (ks.zip wvs)) (EP X pins σ Qv) X.xe s1) X.xe s :=
  thn (h σ B H S (fun ws H2 => ∃ zs M2 B2, Go M B H M2 B2 H2 ∧ StR X.K T l M2 σ B2 H2 ∧ RpL X.K B2 zs ws ∧ CVK X T f ds ks zs l M2 Q E) W tk (fun v x M1 B1 H1 g S1 r q => ⟨x, M1, B1, g, S1, r, q⟩) kx pos pins s I)
    fun wvs s1 ⟨ws, H1, I1, r1, zs, M2, B2, g, S2, rz, u⟩ => ⟨I1.kIn, u pins s1 σ B2 H1 vs us ws wvs I1 S2 (r.mono g.b) rv rz r1 Qv W tk (kn.step g) (kx.step g)⟩
theorem ge_cuk {f : Value} (h : GL X T (e :: es) l M (fun ds M1 => GKw X T kws l M1 (fun zs M2 => CVK X T f ds ks zs l M2 Q E) E) E) (hg : Gl X x) (hm : X.mg x = some f) (hk : PySem.W.keepIn X.K f = true) (hdb : (x == ("__debug__" : Str)) = false)
    (hall : (backToKw pos (keywordEach kws X.env)).all (·.1.isSome) = true) (hks : (backToKw pos (keywordEach kws X.env)).filterMap (·.1) = ks) (he : starEach (e :: es) X.env = (false, eval e X.env) :: starEach es X.env)
    (hpl : ((backTo pos (starEach (e :: es) X.env)).any (·.1) || (backToKw pos (keywordEach kws X.env)).any (·.1.isNone)) = false) : GE X T (.Call (.Name x p) (e :: es) kws pos) l M Q E := fun σ B H S Qv W tk kn kx pins s I => by
  refine wpAny_Call_Name_kw (ld_glob I hg hm ?_ hdb)
  refine PySem.W.callWith_KW (h₀ := X.base) I.ok.mod.kin hk hall (thn (h σ B H S (fun vs H2 => ∃ ds M2 B2, Go M B H M2 B2 H2 ∧ StR X.K T l M2 σ B2 H2 ∧ RpL X.K B2 ds vs ∧ GKw X T kws l M2 (fun zs M2 => CVK X T f ds ks zs l M2 Q E) E) W tk (fun v x M1 B1 H1 g S1 r q => ⟨x, M1, B1, g, S1, r, q⟩) kx pos pins s I) fun us s1 ⟨vs, H1, I1, r1, ds, M1, B1, g, S1, r, q⟩ => ?_) hpl he
  rw [hks]
  exact kw_call q S1 tk (kn.step g) (kx.step g) I1 r r1
theorem ge_cuk0 {f : Value} (h : GKw X T kws l M (fun zs M2 => CVK X T f [] ks zs l M2 Q E) E) (hg : Gl X x) (hm : X.mg x = some f) (hk : PySem.W.keepIn X.K f = true) (hdb : (x == ("__debug__" : Str)) = false)
    (hall : (backToKw pos (keywordEach kws X.env)).all (·.1.isSome) = true) (hks : (backToKw pos (keywordEach kws X.env)).filterMap (·.1) = ks)
    (hpl : ((backTo pos (starEach [] X.env)).any (·.1) || (backToKw pos (keywordEach kws X.env)).any (·.1.isNone)) = false) : GE X T (.Call (.Name x p) [] kws pos) l M Q E := fun σ B H S Qv W tk kn kx pins s I => by
  refine wpAny_Call_Name_kw (ld_glob I hg hm ?_ hdb)
  refine PySem.W.callWith_KW0 (h₀ := X.base) I.ok.mod.kin hk hall ?_ hpl
  rw [hks]
  exact kw_call h S tk kn kx I RpL.nil .nil
theorem ge_muk (h : GE X T o l M (fun x M1 => ∃ f, MtOk X.K x M1 m f ∧ GL X T (e :: es) l M1 (fun ds M2 => GKw X T kws l M2 (fun zs M3 => CVK X T (.ref f) (x :: ds) ks zs l M3 Q E) E) E) E) (hb : attributeBase o m X.env (eval o X.env) = eval o X.env)
    (hall : (backToKw pos (keywordEach kws X.env)).all (·.1.isSome) = true) (hks : (backToKw pos (keywordEach kws X.env)).filterMap (·.1) = ks) (he : starEach (e :: es) X.env = (false, eval e X.env) :: starEach es X.env)
    (hpl : ((backTo pos (starEach (e :: es) X.env)).any (·.1) || (backToKw pos (keywordEach kws X.env)).any (·.1.isNone)) = false) (hst : (backTo pos (starEach (e :: es) X.env)).all (fun x => !x.1) = true) (hlen : (e :: es).length + kws.length < 20) (hline : (ap.endLine == pos.line) = true) :
    GE X T (.Call (.Attribute o m ap) (e :: es) kws pos) l M Q E := fun σ B H S Qv W tk kn kx pins s I => by
  refine PySem.W.methodCall_KW (thn (h σ B H S (fun v H2 => ∃ x M1 B1, Go M B H M1 B1 H2 ∧ StR X.K T l M1 σ B1 H2 ∧ Rp X.K B1 x v ∧ ∃ f, MtOk X.K x M1 m f ∧ GL X T (e :: es) l M1 (fun ds M2 => GKw X T kws l M2 (fun zs M3 => CVK X T (.ref f) (x :: ds) ks zs l M3 Q E) E) E) W tk (fun v x M1 B1 H1 g S1 r q => ⟨x, M1, B1, g, S1, r, q⟩) kx pins s I) fun u s1 ⟨v, H1, I1, r1, x, M1, B1, g1, S1, rd, f, hm, q⟩ => ?_) (eval_meth hb hst hall hlen hline)
  obtain ⟨a, C, dx, gs, rfl, h1, c, k, n⟩ := mt_get S1 rd hm
  obtain rfl : u = Value.ref a := r1
  refine getmeth_ok I1 h1 c k n ?_
  refine PySem.W.callWith_KW (first := [.ref a]) (h₀ := X.base) I.ok.mod.kin k.kp hall (thn (q σ B1 H1 S1 (fun vs H2 => ∃ ds M2 B2, Go M1 B1 H1 M2 B2 H2 ∧ StR X.K T l M2 σ B2 H2 ∧ RpL X.K B2 ds vs ∧ GKw X T kws l M2 (fun zs M3 => CVK X T (.ref f) (x :: ds) ks zs l M3 Q E) E) W tk (fun v x M1 B1 H1 g S1 r q => ⟨x, M1, B1, g, S1, r, q⟩) (kx.step g1) pos pins s1 I1) fun us s2 ⟨vs, H2, I2, r2, ds, M2, B2, g2, S2, rds, w⟩ => ?_) hpl he
  rw [hks]
  exact kw_call w S2 tk (kn.step (g1.trans g2)) (kx.step (g1.trans g2)) I2 (RpL.cons (rd.mono g2.b) rds) (.cons rfl r2)
theorem ge_muk0 (h : GE X T o l M (fun x M1 => ∃ f, MtOk X.K x M1 m f ∧ GKw X T kws l M1 (fun zs M3 => CVK X T (.ref f) [x] ks zs l M3 Q E) E) E) (hb : attributeBase o m X.env (eval o X.env) = eval o X.env)
    (hall : (backToKw pos (keywordEach kws X.env)).all (·.1.isSome) = true) (hks : (backToKw pos (keywordEach kws X.env)).filterMap (·.1) = ks)
    (hpl : ((backTo pos (starEach [] X.env)).any (·.1) || (backToKw pos (keywordEach kws X.env)).any (·.1.isNone)) = false) (hlen : kws.length < 20) (hline : (ap.endLine == pos.line) = true) :
    GE X T (.Call (.Attribute o m ap) [] kws pos) l M Q E := fun σ B H S Qv W tk kn kx pins s I => by
  refine PySem.W.methodCall_KW (thn (h σ B H S (fun v H2 => ∃ x M1 B1, Go M B H M1 B1 H2 ∧ StR X.K T l M1 σ B1 H2 ∧ Rp X.K B1 x v ∧ ∃ f, MtOk X.K x M1 m f ∧ GKw X T kws l M1 (fun zs M3 => CVK X T (.ref f) [x] ks zs l M3 Q E) E) W tk (fun v x M1 B1 H1 g S1 r q => ⟨x, M1, B1, g, S1, r, q⟩) kx pins s I) fun u s1 ⟨v, H1, I1, r1, x, M1, B1, g1, S1, rd, f, hm, q⟩ => ?_) (eval_meth hb rfl hall (by simpa using hlen) hline)
  obtain ⟨a, C, dx, gs, rfl, h1, c, k, n⟩ := mt_get S1 rd hm
  obtain rfl : u = Value.ref a := r1
  refine getmeth_ok I1 h1 c k n ?_
  refine PySem.W.callWith_KW0 (first := [.ref a]) (h₀ := X.base) I.ok.mod.kin k.kp hall ?_ hpl
  rw [hks]
  exact kw_call q S1 tk (kn.step g1) (kx.step g1) I1 (RpL.cons rd RpL.nil) (.cons rfl .nil)
/-! ### static methods; isinstance with a tuple of classes -/
theorem ge_sm {g : Addr} (hsm : SmOk X.K X.mg x m g) (h : GL X T (e :: es) l M (fun ds M1 => CV X T X.A (.ref g) ds l M1 Q E) E) (hg : Gl X x) (hdb : (x == ("__debug__" : Str)) = false) (hb : attributeBase (.Name x p) m X.env (eval (.Name x p) X.env) = eval (.Name x p) X.env)
    (he : starEach (e :: es) X.env = (false, eval e X.env) :: starEach es X.env) (hpl : (backTo pos (starEach es X.env)).any (·.1) = false) (hall : (backTo pos (starEach (e :: es) X.env)).all (fun x => !x.1) = true) (hlen : (e :: es).length < 20) (hline : (ap.endLine == pos.line) = true) :
    GE X T (.Call (.Attribute (.Name x p) m ap) (e :: es) [] pos) l M Q E := fun σ B H S Qv W tk kn kx pins s I => by
  obtain ⟨C, mc, q, hm, r, c⟩ := hsm
  refine PySem.W.methodCall_KW (ld_glob I hg hm ?_ hdb) (eval_meth hb hall rfl hlen hline)
  refine getsm_ok I r c fun s1 I1 => ?_
  exact PySem.W.callWith_K (first := []) (h₀ := X.base) I.ok.mod.kin c.kp (args_call h S tk kn kx I1) he hpl
theorem ge_sm0 {g : Addr} (hsm : SmOk X.K X.mg x m g) (h : CV X T X.A (.ref g) [] l M Q E) (hg : Gl X x) (hdb : (x == ("__debug__" : Str)) = false) (hb : attributeBase (.Name x p) m X.env (eval (.Name x p) X.env) = eval (.Name x p) X.env) (hline : (ap.endLine == pos.line) = true) :
    GE X T (.Call (.Attribute (.Name x p) m ap) [] [] pos) l M Q E := fun σ B H S Qv W tk kn kx pins s I => by
  obtain ⟨C, mc, q, hm, r, c⟩ := hsm
  refine PySem.W.methodCall_KW (ld_glob I hg hm ?_ hdb) (eval_meth hb rfl rfl (by decide) hline)
  refine getsm_ok I r c fun s1 I1 => ?_
  exact PySem.W.callWith_K0 (first := []) I1.kIn c.kp (h pins s1 σ B H [] [] I1 S RpL.nil .nil Qv W tk kn kx)
theorem TyM.of {K : PySem.W.Frag} {σ : L2.St} {B H : Hp} {d : D} {t : Value} {v : V} (S : StR K T l M σ B H) (h : TyM K M d t) (r : Rp K B d v) : TyX K H v t := by
  have r1 := r.mono S.ex
  cases d with
  | ref p =>
    have ev : v = .ref p := by simpa only [Rp] using r
    subst ev
    dsimp only [TyM] at h
    cases e : M.at p with
    | none => rw [e] at h; exact h.elim
    | some o =>
      rw [e] at h
      obtain ⟨_, hm⟩ := S.mm.at_ p o e
      cases o with
      | lst ds => cases h; obtain ⟨vs, h1, _⟩ := hm; exact .base (.lst h1)
      | dK ds => cases h; obtain ⟨vs, h1, _⟩ := hm; exact .base (.dK h1)
      | dT ds => cases h; obtain ⟨vs, h1, _⟩ := hm; exact .base (.dT h1)
      | ins C fs =>
        obtain ⟨rfl, q⟩ := h
        obtain ⟨dx, gs, h1, _⟩ := hm
        exact .base (.ins h1 q.cl q.ha q.hn q.htk q.hm)
      | lam _ _ _ => exact h.elim
  | _ => exact tyD_of (by exact h) r1
theorem clsV_of {K : PySem.W.Frag} {B : Hp} : ∀ {ts : List D} {cs : List Value} {us : List V}, Paired (fun d c => (∃ n, d = D.ty n ∧ c = Value.type n) ∨ (∃ C, d = D.ref C ∧ c = Value.ref C)) ts cs → RpL K B ts us → Paired ClsV us cs
  | _, _, us, .nil, r2 => by simp only [RpL] at r2; subst r2; exact .nil
  | _, _, us, .cons a b, r2 => by
    simp only [RpL] at r2
    obtain ⟨w, ws, rfl, h1, h2⟩ := r2
    refine .cons ?_ (clsV_of b h2)
    rcases a with ⟨n, rfl, rfl⟩ | ⟨C, rfl, rfl⟩
    · simp only [Rp] at h1; subst h1; exact .ty n
    · simp only [Rp] at h1; subst h1; exact .own C
theorem ge_isT {ts : List Expr} {k0 : Nat} {tp : Pos} (h : GE X T a l M (fun x M1 => GL X T ts l M1 (fun tys M2 => tys.length ≤ sizeLine ∧ IsT X.K x tys M2 Q) E) E) (hm : X.mg "isinstance" = none) (hg : Gl X "isinstance")
    (he : starEach [a, .Tuple ts k0 tp] X.env = (false, eval a X.env) :: starEach [.Tuple ts k0 tp] X.env) : GE X T (.Call (.Name "isinstance" p) [a, .Tuple ts k0 tp] [] pos) l M Q E := fun σ B H S Qv W tk kn kx =>
  RE.of (pe_callB call_isiT hg hm (by decide +kernel) (pa_cons cE (pa_cons (pe_tup cA) pa_nil rfl) he) (by decide) (by decide) he rfl)
    (h σ B H S _ W tk (fun v d M1 B1 H1 g1 S1 r1 q => q σ B1 H1 S1 _ W tk (fun us tys M2 B2 H2 g2 S2 r2 ⟨hl, t, cs, r, ht, hk, hp, q⟩ => ⟨by rw [← r2.length]; exact hl, fun t0 ht0 => by
      obtain ⟨g3, S3⟩ := S2.step (Step.alloc (o := .tup us) S2.ex ht0)
      have gg := (g1.trans g2).trans g3
      exact ⟨v, t0, us, t, cs, r, rfl, upd_same, clsV_of hp r2, TyM.of S3 ht (rpN nt_ex ((r1.mono g2.b).mono (Ex.new (S2.ex.back ht0)))), hk, kn _ _ M2 _ _ gg S3 (Rp.bl.mpr rfl) q⟩⟩) (kx.step g1)) kx)
/-! ### things of one's own -/
theorem StR.own {K : PySem.W.Frag} {σ : L2.St} {B H : Hp} (S : StR K T l M σ B H) {p : Addr} {o : MO} (hB : B p = none) (hM : p ∉ M.ks) (m : MoR K B H p o) : StR K T l ((p, o) :: M) σ B H := by
  refine ⟨S.ex, S.nt, S.sl, ⟨List.nodup_cons.mpr ⟨hM, S.mm.nd⟩, fun q o' h => ?_⟩, S.tb⟩
  unfold Mem.at at h
  rw [List.lookup_cons] at h
  by_cases e : q = p
  · subst e
    rw [beq_self_eq_true] at h
    cases h
    exact ⟨hB, m⟩
  · rw [beq_eq_false_iff_ne.mpr e] at h
    exact S.mm.at_ q o' h
theorem Go.own {M M' : Mem} {B H B' H' : Hp} (g : Go M B H M' B' H') {p : Addr} {o : MO} (h : H p = none) : Go M B H ((p, o) :: M') B' H' := ⟨g.b, g.h, g.nw, fun a h1 h2 u hu => by
  rcases List.mem_cons.mp h1 with e | e
  · have e : a = p := e
    rw [e, h] at hu; cases hu
  · exact g.fr a e h2 u hu⟩
theorem ge_olst (h : GL X T es l M (fun ds M1 => ds.length ≤ sizeLine ∧ ∀ p, p ∉ M1.ks → Q (.ref p) ((p, .lst ds) :: M1)) E) : GE X T (.List es pos) l M Q E := fun σ B H S Qv W tk kn kx =>
  RE.of (pe_lst cA) (h σ B H S _ W tk (fun vs ds M1 B1 H1 g S1 r q => ⟨by rw [← r.length]; exact q.1, fun p hp => by
    obtain ⟨g2, S2, np⟩ := S1.new (u := .lst vs) (o := .lst ds) hp ⟨vs, upd_same, r⟩
    exact kn _ (.ref p) _ _ _ (g.trans g2) S2 (by simp only [Rp]) (q.2 p np)⟩) kx)
theorem ge_odic (h : ∀ p, p ∉ M.ks → Q (.ref p) ((p, .dK []) :: M)) : GE X T (.Dict [] [] pos) l M Q E := fun σ B H S Qv W tk kn kx =>
  RE.of pe_dnewK fun p hp => by
    obtain ⟨g2, S2, np⟩ := S.new (u := .dK []) (o := .dK []) hp ⟨[], upd_same, by simp only [RpK]⟩
    exact kn _ (.ref p) _ _ _ g2 S2 (by simp only [Rp]) (h p np)
theorem ge_oli (h : GE X T e l M (fun d M1 => ∃ ds, (vw M1 d = .lst ds ∨ d = .tup ds) ∧ ∀ p, p ∉ M1.ks → Q (.ref p) ((p, .lst ds) :: M1)) E) (hm : X.mg "list" = none) (hg : Gl X "list")
    (he : starEach [e] X.env = (false, eval e X.env) :: starEach [] X.env) : GE X T (.Call (.Name "list" p) [e] [] pos) l M Q E := fun σ B H S Qv W tk kn kx => by
  refine RE.of (pe_callTy call_list_of hg hm bt_list (pa_cons cE pa_nil he) (by decide) (by decide) he rfl) (h σ B H S _ W tk (fun v d M1 B1 H1 g S1 r ⟨ds, hd, q⟩ => ?_) kx)
  have fin : ∀ (a : Addr) (xs : List V), RpL X.K B1 ds xs → ∀ t, H1 t = none → Qv (.ref t) (upd H1 t (.lst xs)) := fun a xs hx t ht => by
    obtain ⟨g2, S2, np⟩ := S1.new (u := .lst xs) (o := .lst ds) ht ⟨xs, upd_same, hx⟩
    exact kn _ (.ref t) _ _ _ (g.trans g2) S2 (by simp only [Rp]) (q t np)
  rcases hd with hd | rfl
  · have one : ∀ {d : D}, Rp X.K B1 d v → d = .lst ds → ∃ a xs, [v] = [.ref a] ∧ (SqL X.K H1 a xs ∨ SqT X.K H1 a xs) ∧ ∀ t, H1 t = none → Qv (.ref t) (upd H1 t (.lst xs)) := fun r e => by
      subst e
      obtain ⟨a, xs, rfl, h1, h2⟩ := Rp.lst.mp r
      exact ⟨a, xs, rfl, .inl (SqL.of (S1.ex _ _ h1)), fin a xs h2⟩
    cases d with
    | ref a =>
      dsimp only [vw] at hd
      cases e : M1.at a with
      | none => rw [e] at hd; cases hd
      | some o =>
        rw [e] at hd
        cases o with
        | dK _ => cases hd
        | dT _ => cases hd
        | ins _ _ => cases hd
        | lam _ _ _ => cases hd
        | lst ds' =>
          cases hd
          obtain ⟨_, xs, h1, h2⟩ := S1.mm.at_ a _ e
          have : v = .ref a := by simpa only [Rp] using r
          subst this
          exact ⟨a, xs, rfl, .inl (SqL.of h1), fin a xs h2⟩
    | _ => exact one r hd
  · obtain ⟨a, xs, rfl, h1, h2⟩ := Rp.tup.mp r
    exact ⟨a, xs, rfl, .inr (S1.ex.t h1), fin a xs h2⟩
end
end Wx
set_option Elab.async false
set_option linter.all false
set_option maxRecDepth 100000
set_option maxHeartbeats 4000000
/-! Wx: lambdas: made, called within the def that got one. -/
namespace Wx
open PySem L2 Fx PySem.Spec PyProof.Rows
theorem noPar_eq {ps : Arguments} (h : noPar ps = true) : ps = ⟨[], [], none, [], [], none, []⟩ := by
  unfold noPar at h
  split at h
  · rfl
  · cases h
section
variable {X : Cx} {T : Tb} {pins : List (Addr × Obj)} {σ : L2.St} {l : Sl} {M : Mem} {B H : Hp} {s : Shared} {me : Me} {b : IE} {cd P : Addr}
/-- the maker's code is known -/
structure Maker (X : Cx) (T : Tb) (me : Me) (cd P : Addr) : Prop where
  tb : LamX.TabB X.base X.mg cd P
  code : X.env.code = .ref cd
  mem : (P, X.env.qual ++ "<lambda>") ∈ T
  one : ∀ p ∈ T, p.1 = P → p.2 = X.env.qual ++ "<lambda>"
  sc : X.env.scope = me.c.sc
  cl : X.env.cells = me.cells
theorem lam_laid {ps : Arguments} {bodyE : Expr} {scope : Scope} {pos : Pos} {R : Value → Shared → Prop} {E : Value → Shared → Prop} (I : Inv X pins σ H s) (mk : Maker X T me cd P) (tabs : LamX.Tabs T H) (np : noPar ps = true) (L : LamX.LamS me.c.sc scope) (hck : ck { me.c with sc := scope, top := false } b bodyE = true)
    (go : ∀ (p c' : Addr) (H1 : Hp) (s' : Shared), H1 p = none → Inv X pins σ (upd H1 p (lamO me b (X.env.qual ++ "<lambda>") p c')) s' → LamX.ExtN H H1 → LamX.Tabs T H1 → H1 c' = some (LamX.CodeO c' (X.env.qual ++ "<lambda>")) → R (.ref p) s') :
    wpAny (model X.prog X.w) X.A (eval (.Lambda ps bodyE scope pos) X.env) R E s := by
  have eps := noPar_eq np
  have nd : defaultsOf ps X.env = ([], []) := by rw [eps]; rfl
  have L' : LamX.LamS X.env.scope scope := by rw [mk.sc]; exact L
  have free := L'.has I.ok
  obtain ⟨ts, hP, triples, known⟩ := tabs _ mk.mem
  have atP : s.heap.get? P = some { cls := .none, data := .fields ts } := I.hok P _ hP
  have bmP := mk.tb.bm.keeps I.bk
  have cdP := mk.tb.code.keeps I.bk
  have lay : ∀ (H1 : Hp) (h' : Heap) (tk : Nat) (c' : Addr) (pm ctv : Value), Inv X pins σ H1 { s with heap := h', toks := tk } → Inv X pins σ (upd H1 h'.objs.size (lamO me b (X.env.qual ++ "<lambda>") h'.objs.size c')) { s with heap := h'.push (PySem.W.kla_obj "<lambda>" (X.env.qual ++ "<lambda>") ps bodyE scope (cloFrom X.env.cells scope.names []) pm c' ctv), toks := tk } := fun H1 h' tk c' pm ctv J => by
    have fact := Heap.get?_push_size h' (o := PySem.W.kla_obj "<lambda>" (X.env.qual ++ "<lambda>") ps bodyE scope (cloFrom X.env.cells scope.names []) pm c' ctv) rfl
    refine J.laid (t' := tk) (fun a o e => Heap.get?_push_of_some _ e) (Nat.le_refl _) ⟨⟨ps, bodyE, scope, pm, ctv, ?_, np, L, hck⟩, ⟨_, fact⟩, fun h1 h2 ⟨ps, bodyE, scope, pm, ctv, e, r⟩ st => ⟨ps, bodyE, scope, pm, ctv, st _ e, r⟩⟩
    rw [← mk.cl]; exact fact
  refine PySem.W.kla_eval nd ?_
  cases hc : codeAmong pos ts.toList with
  | some cv =>
    obtain ⟨c', rfl, hco⟩ := known pos cv hc
    refine PySem.W.kla_makeFunctionHit (mg := X.mg) (c := cd) (P := P) (ps := ts) (closure_ok free) I.ok.glob (I.mod.glob.keeps I.bk) mk.code cdP atP triples hc bmP fun ctv h' tk keep size => ?_
    have J : Inv X pins σ H { s with heap := h', toks := tk } := I.kept keep
    exact go _ c' H _ (J.hok.fresh (Nat.le_refl _)) (lay H h' tk c' _ ctv J) (LamX.ExtN.refl H) tabs hco
  | none =>
    refine PySem.W.kla_makeFunction (mg := X.mg) (c := cd) (P := P) (ps := ts) (closure_ok free) I.ok.glob (I.mod.glob.keeps I.bk) mk.code cdP atP triples hc mk.tb.gP bmP fun c' ctv h' tk keep ge lt rec written => ?_
    obtain ⟨c2, oc, vs, t, e2, hoc, hdat, hq⟩ := rec
    cases e2
    have fresh : H c' = none := I.hok.fresh ge
    have J := LamX.inv_table (t' := tk) (q := X.env.qual ++ "<lambda>") (more := #[rawInt pos.line, rawInt pos.col, .ref c']) (h' := h') I hP (fun a o n e => keep a o n e) written ge ⟨oc, vs, t, hoc, hdat, hq⟩
    have nCP : P ≠ c' := ne_of_none hP fresh
    have grow : LamX.ExtN H (upd (upd H P (.tbl (ts ++ #[rawInt pos.line, rawInt pos.col, .ref c']))) c' (LamX.CodeO c' (X.env.qual ++ "<lambda>"))) := fun a o e n => by
      rw [upd_ne (ne_of_none e fresh), upd_ne (fun z => n ts (Option.some.inj (e.symm.trans (by rw [z]; exact hP))))]
      exact e
    have lists : (ts ++ #[rawInt pos.line, rawInt pos.col, .ref c']).toList = ts.toList ++ [rawInt pos.line, rawInt pos.col, .ref c'] := by simp
    refine go _ c' _ _ (J.hok.fresh (Nat.le_refl _)) (lay _ h' tk c' _ ctv J) grow (fun r hr => ?_) upd_same
    by_cases e : r.1 = P
    · rw [mk.one r hr e, e]
      refine ⟨_, by rw [upd_ne nCP, upd_same], by rw [lists]; exact PySem.TriplesOk_snoc _ _ _ _ triples, fun p' cv hcv => ?_⟩
      rw [lists] at hcv
      rcases LamX.among_app _ triples hcv with z | z
      · obtain ⟨c0, e1, e2⟩ := known p' cv z
        exact ⟨c0, e1, grow _ _ e2 LamX.codeO_ne⟩
      · exact ⟨c', z, upd_same⟩
    · obtain ⟨ts', a1, a2, a3⟩ := tabs r hr
      refine ⟨ts', by rw [upd_ne (ne_of_none a1 fresh), upd_ne e]; exact a1, a2, fun p' cv hcv => ?_⟩
      obtain ⟨c0, e1, e2⟩ := a3 p' cv hcv
      exact ⟨c0, e1, grow _ _ e2 LamX.codeO_ne⟩
variable {Q : PD} {E : PX}
theorem ge_lam {ps : Arguments} {bodyE : Expr} {scope : Scope} {pos : Pos} (mk : Maker X T me cd P) (np : noPar ps = true) (L : LamX.LamS me.c.sc scope) (hck : ck { me.c with sc := scope, top := false } b bodyE = true)
    (q : ∀ p, p ∉ M.ks → Q (.ref p) ((p, .lam me b none) :: M)) : GE X T (.Lambda ps bodyE scope pos) l M Q E := fun σ B H S Qv W tk kn kx pins s I => by
  refine lam_laid I mk S.tb np L hck fun p c' H1 s' hp J grow tabs hco => ?_
  have hH : ∀ o, H p = some o → ∃ ts, o = .tbl ts := fun o e => by
    by_cases n : ∀ ts, o ≠ .tbl ts
    · rw [grow p o e n] at hp; cases hp
    · obtain ⟨ts, z⟩ := Classical.not_forall.mp n
      exact ⟨ts, Classical.not_not.mp z⟩
  have keep : ∀ a o, H a = some o → (∀ ts, o ≠ .tbl ts) → upd H1 p (lamO me b (X.env.qual ++ "<lambda>") p c') a = some o := fun a o e n => by
    have e1 := grow a o e n
    rw [upd_ne (ne_of_none e1 hp)]
    exact e1
  have hBp : B p = none := by
    cases e : B p with
    | none => rfl
    | some o =>
      obtain ⟨ts, z⟩ := hH o (S.ex _ _ e)
      subst z
      exact absurd e (S.nt p ts)
  have np' : p ∉ M.ks := fun z => by
    obtain ⟨o, e⟩ := ks_at z
    obtain ⟨u, hu, nu⟩ := (S.mm.at_ p o e).2.there
    obtain ⟨ts, z⟩ := hH u hu
    exact nu ts z
  have exB : Ex B (upd H1 p (lamO me b (X.env.qual ++ "<lambda>") p c')) := fun a o e => keep a o (S.ex a o e) fun ts z => S.nt a ts (z ▸ e)
  have nc : c' ≠ p := fun z => by rw [z, hp] at hco; cases hco
  have gN : Go M B H ((p, .lam me b none) :: M) B (upd H1 p (lamO me b (X.env.qual ++ "<lambda>") p c')) := by
    refine ⟨Ex.refl B, fun a o e _ n => keep a o e n, fun a o e hb _ _ => hb, fun a h n o e => ?_⟩
    rcases List.mem_cons.mp h with z | z
    · have z : a = p := z
      rw [z] at e
      exact hH o e
    · exact absurd z n
  have sN : StR X.K T l ((p, .lam me b none) :: M) σ B (upd H1 p (lamO me b (X.env.qual ++ "<lambda>") p c')) := by
    refine ⟨exB, S.nt, S.sl, ⟨List.nodup_cons.mpr ⟨np', S.mm.nd⟩, fun r o e => ?_⟩, fun r hr => ?_⟩
    · unfold Mem.at at e
      rw [List.lookup_cons] at e
      by_cases z : r = p
      · subst z
        rw [beq_self_eq_true] at e
        cases e
        exact ⟨hBp, X.env.qual ++ "<lambda>", c', upd_same, by rw [upd_ne nc]; exact hco, fun _ z => nomatch z⟩
      · rw [beq_eq_false_iff_ne.mpr z] at e
        obtain ⟨m1, m2⟩ := S.mm.at_ r o e
        obtain ⟨u, hu, nu⟩ := m2.there
        exact ⟨m1, m2.mono (Ex.refl B) (by rw [keep r u hu nu, hu]) fun a φ z => keep a _ z fun _ z => nomatch z⟩
    · obtain ⟨ts, a1, a2, a3⟩ := tabs r hr
      have u1 : ∀ {a : Addr} {o : HO}, H1 a = some o → upd H1 p (lamO me b (X.env.qual ++ "<lambda>") p c') a = some o := fun e => by
        rw [upd_ne (ne_of_none e hp)]; exact e
      refine ⟨ts, u1 a1, a2, fun p' cv hcv => ?_⟩
      obtain ⟨c0, e1, e2⟩ := a3 p' cv hcv
      exact ⟨c0, e1, u1 e2⟩
  exact ⟨.ref p, _, J, rfl, kn (.ref p) (.ref p) _ B _ gN sN (by simp only [Rp]) (q p np')⟩
end
end Wx
set_option Elab.async false
set_option linter.all false
set_option maxRecDepth 100000
set_option maxHeartbeats 4000000
/-! Wx: the call of a lambda within the def that got it. -/
namespace Wx
open PySem L2 Fx PySem.Spec PyProof.Rows
abbrev lamE (q : Str) (cl : List (Str × Addr)) (scope : Scope) (L f c' : Addr) : Env := PySem.W.envX q scope L f (.ref c') cl
/-- the context of a lambda's body -/
def lamG (Y : Co) (N : List Str) (q : Str) (cl : List (Str × Addr)) (A : Around) (outer : List Env) (s : Shared) (H : Hp) (E : XK) (scope : Scope) (f c' : Addr) : Cx where
  prog := Y.prog
  w := Y.w
  K := Y.K
  mg := Y.mg
  base := Y.base
  env := lamE q cl scope s.heap.objs.size f c'
  A := A.deeper (lamE q cl scope s.heap.objs.size f c')
  N := N
  s_0 := s
  H_0 := H
  stack := lamE q cl scope s.heap.objs.size f c' :: outer
  outer := outer
  calm := true
  fn := fun _ => false
  ex := []
  pn := []
  xe := fun e s1 => wpAny (model Y.prog Y.w) (A.deeper (lamE q cl scope s.heap.objs.size f c')) (leaving (lamE q cl scope s.heap.objs.size f c') e) (fun _ s2 => L2.CX Y.prog Y.w outer H s E e s2) (fun e2 s2 => L2.CX Y.prog Y.w outer H s E e2 s2) s1
/-- the maker's cells hold what its slots hold -/
structure Snap (me : Me) (σ : L2.St) (H : Hp) (h : Heap) : Prop where
  len : σ.length = me.c.N.length
  vals : ∀ (i : Nat) (y : Str) (v : V), me.c.N[i]? = some y → σ[i]? = some (some v) → (me.c.sc.names.lookup y = some .cell ∨ me.c.sc.names.lookup y = some .free) → ∃ c u, me.cells.lookup y = some c ∧ h.IsCell c (some u) ∧ RelV v u
  cell : ∀ y c, me.cells.lookup y = some c → (∃ v, h.IsCell c v) ∧ H c = none
  inj : ∀ y z c, me.cells.lookup y = some c → me.cells.lookup z = some c → y = z
  has : ∀ y, (me.c.sc.names.lookup y = some .cell ∨ me.c.sc.names.lookup y = some .free) → ∃ c, me.cells.lookup y = some c
section
variable {X : Cx} {pins : List (Addr × Obj)} {σ : L2.St} {H HZ : Hp} {s s1 : Shared} {me : Me}
theorem snap_of (I : Inv X pins σ H s) (hN : X.N = me.c.N) (hs : X.env.scope = me.c.sc) (hc : X.env.cells = me.cells) : Snap me σ H s.heap := by
  have key : ∀ y, (me.c.sc.names.lookup y = some .cell ∨ me.c.sc.names.lookup y = some .free) → X.env.kindOf y = some .cell ∨ X.env.kindOf y = some .free := fun y z => by
    rw [← hs] at z; exact z
  refine ⟨I.len.trans (by rw [hN]), fun i y v e1 e2 e3 => ?_, fun y c e => ?_, fun y z c e1 e2 => I.ok.inj y z c (by rw [hc]; exact e1) (by rw [hc]; exact e2), fun y z => by rw [← hc]; exact I.ok.has y (key y z)⟩
  · obtain ⟨m, _, hl⟩ := I.loc
    have k := key y e3
    obtain ⟨u, r, look⟩ := hl i y v (by rw [hN]; exact e1) e2 (k.elim (fun z => .inr (.inl z)) fun z => .inr (.inr z))
    rcases look with ⟨k2, _⟩ | ⟨_, c, e, z⟩
    · rcases k with k | k <;> rw [k] at k2 <;> cases k2
    · exact ⟨c, u, by rw [← hc]; exact e, z, r⟩
  · rw [← hc] at e
    exact ⟨I.cell y c e, I.freeC y c e⟩
theorem lam_begin {Y : Co} {A : Around} {outer : List Env} {E : XK} {q : Str} {scope : Scope} {f c' : Addr} {h0 h1 : Heap} {tk : Nat} {fs : List Addr} (S : Snap me σ H h0) (L : LamX.LamS me.c.sc scope) (e0 : Env0 Y.prog Y.w Y.K Y.mg Y.base A outer s1 HZ) (hd : A.handled = none) (un : Un fs [] H HZ h0 s1.heap)
    (ns : h1.Ns s1.heap.objs.size fun y => ([] : List (Str × Value)).reverse.lookup y) (kp : ∀ b o, s1.heap.get? b = some o → h1.get? b = some o) :
    Inv (lamG Y me.c.N q (cloFrom me.cells scope.names []) A outer s1 HZ E scope f c') [] σ HZ { s1 with heap := h1, toks := tk } := by
  have own : ∀ {y}, scope.names.lookup y = some .free → ∃ c, me.cells.lookup y = some c := fun {y} z => S.has y (L.free _ (PySem.mem_of_lookup z) rfl)
  have back : ∀ {y c}, (cloFrom me.cells scope.names []).lookup y = some c → me.cells.lookup y = some c := fun {y c} e => by
    rcases cloFrom_mem (PySem.mem_of_lookup e) with z | ⟨z1, z2⟩
    · cases z
    · obtain ⟨c1, q1⟩ := S.has y (L.free _ z1 rfl)
      rw [z2, q1] <;> rfl
  have look : ∀ {y}, scope.names.lookup y = some .free → ∃ c, (cloFrom me.cells scope.names []).lookup y = some c := fun {y} z => mem_lookup (cloFrom_has (acc := []) (PySem.mem_of_lookup z))
  have stays : ∀ {c : Addr} {v : Option Value}, H c = none → h0.IsCell c v → h1.IsCell c v := fun {c v} n ⟨o, ho, hv⟩ => by
    obtain ⟨sl, e⟩ := un.any ho n (by simp)
    exact ⟨_, kp _ _ e, hv⟩
  have none_ex : ∀ b : Addr, b ∉ (lamG Y me.c.N q (cloFrom me.cells scope.names []) A outer s1 HZ E scope f c').ex := fun b z => nomatch (show b ∈ ([] : List Addr) from z)
  have noOwn : ∀ {y}, scope.names.lookup y = some .local ∨ scope.names.lookup y = some .cell → False := fun {y} z => by
    rcases z with z | z
    · exact (L.own _ (PySem.mem_of_lookup z)).1 rfl
    · exact (L.own _ (PySem.mem_of_lookup z)).2 rfl
  constructor
  · refine ⟨e0.mod, L.kind, rfl, rfl, Nat.le_refl _, fun y z c e1 e2 => S.inj y z c (back e1) (back e2), fun y hy => ?_, fun y c z _ => ?_, fun _ => hd, Around.frames_deeper e0.frames, .inr ⟨rfl, rfl⟩, fun b z => absurd z (none_ex b), e0.bs, e0.bsz, fun b _ _ => none_ex b, fun b z => absurd z (none_ex b), e0.funs, e0.frf⟩
    · have hy : scope.names.lookup y = some .cell ∨ scope.names.lookup y = some .free := hy
      rcases hy with z | z
      · exact (noOwn (.inr z)).elim
      · exact look z
    · exact nomatch (show false = true from z)
  · rfl
  · exact e0.bare
  · exact Un.kept kp
  · refine ⟨_, ns, fun i y v e1 e2 e3 => ?_⟩
    have e3 : Vis scope y := e3
    rcases e3 with k | k | k
    · exact (noOwn (.inl k)).elim
    · exact (noOwn (.inr k)).elim
    · obtain ⟨c, u, z1, z2, r⟩ := S.vals i y v e1 e2 (L.free _ (PySem.mem_of_lookup k) rfl)
      obtain ⟨c2, z3⟩ := look k
      have z4 := back z3
      rw [z1] at z4
      cases z4
      exact ⟨u, r, .inr ⟨.inr k, c, z3, stays (S.cell y c z1).2 z2⟩⟩
  · intro y c e
    obtain ⟨⟨v, z⟩, n⟩ := S.cell y c (back e)
    exact ⟨v, stays n z⟩
  · exact e0.hok.fresh (Nat.le_refl _)
  · intro y c e
    obtain ⟨⟨v, o, ho, _⟩, n⟩ := S.cell y c (back e)
    exact un.free c o ho n (by simp)
  · intro p hp
    exact nomatch (show p ∈ ([] : List (Addr × Obj)) ++ [] from hp)
  · exact e0.hok.kept kp
  · exact S.len
end
/-- what a lambda's body does, read by LC, wherever it is called -/
def LcOk (Y : Co) (T : Tb) (k : Nat) (me : Me) (b : IE) (l : Sl) (LC : Mem → PD → PX → Prop) : Prop :=
  ∀ (A : Around) (outer : List Env) (s : Shared) (H : Hp) (E : XK) (q : Str) (scope : Scope) (f c' : Addr) (bodyE : Expr), Room k (A.deeper (lamE q (cloFrom me.cells scope.names []) scope s.heap.objs.size f c')) → A.guards = some [] → LamX.LamS me.c.sc scope → ck { me.c with sc := scope, top := false } b bodyE = true →
    ∀ (M : Mem) (Q : PD) (EX : PX), LC M Q EX → GE (lamG Y me.c.N q (cloFrom me.cells scope.names []) A outer s H E scope f c') T bodyE l M Q EX
section
variable {P : Program} {w : World} {K : PySem.W.Frag} {mg : Str → Option Value} {base : Heap} {T : Tb} {me : Me} {b : IE} {l lZ : Sl} {LC : Mem → PD → PX → Prop} {M : Mem} {Q : PD} {EX : PX} {N : List Str} {qg : Str} {sg : Scope} {g p : Addr} {cdg : Value} {A : Around} {outer : List Env} {s : Shared} {H : Hp} {Eg : XK} {k i : Nat} {a : Str} {pn : List (Addr × Obj)} {xe : Value → Shared → Prop} {p1 p2 : Pos} {σ : L2.St}
theorem ge_act (S : Snap me σ H s.heap) (hL : LcOk ⟨P, w, K, mg, base, A⟩ T k me b l LC) (hr : Room (k + 1) (A.deeper (envOfC qg sg s.heap.objs.size g cdg))) (hG : A.guards = some []) (hN : N[i]? = some a) (hv : Vis sg a) (hd : (a == ("__debug__" : Str)) = false) (hcd : (a == ("__classdict__" : Str)) = false)
    (hl : lZ[i]? = some (some (.ref p))) (hp : M.at p = some (.lam me b (some (l, σ)))) (h : LC M Q EX) :
    GE ((cxOf (L2.CX P w) P w K mg base N qg sg g cdg A outer s H Eg).tr pn xe) T (.Call (.Name a p1) [] [] p2) lZ M Q EX := fun σZ BZ HZ SZ Qv W tk kn kx pinsZ sZ IZ => by
  obtain ⟨v, hs, rv⟩ := SZ.sl.at_ i _ hl
  have ev : v = .ref p := by simpa only [Rp] using rv
  subst ev
  obtain ⟨_, q, c', lo, co, sn⟩ := SZ.mm.at_ p _ hp
  have hsn := sn _ rfl
  refine wpAny_Call_Name_kw (thn ((pe_var (pos := p1) (i := i) hN hv hd hcd).run pinsZ sZ σZ HZ (fun v H1 => v = .ref p ∧ H1 = HZ) IZ ⟨.ref p, hs, rfl, rfl⟩) fun u s1 ⟨v, H1, I1, r1, q1⟩ => ?_)
  obtain ⟨ev, eH⟩ := q1
  subst ev
  rw [eH] at I1
  obtain rfl : u = Value.ref p := r1
  obtain ⟨⟨ps, bodyE, scope, pm, ctv, of1, np, L, hck⟩, _, _⟩ := I1.hok p _ lo
  have eps := noPar_eq np
  subst eps
  refine PySem.W.callWith_F0 ⟨_, _, _, _, of1⟩ ?_
  have un : Un (frs outer) [] H HZ s.heap s1.heap := I1.base
  obtain ⟨⟨oc, vs, t, hoc, hdc, hvc⟩, _, _⟩ := I1.hok c' _ co
  let Ex : XK := fun cls d H' => W cls d σZ H'
  have rc : codeAny (model P w) (A.deeper (envOfC qg sg s.heap.objs.size g cdg)) (.call (.ref p) ⟨[], []⟩) (CR (L2.CX P w) (envOfC qg sg s.heap.objs.size g cdg :: outer) P w HZ s1 Qv Ex) s1 := by
    refine PySem.W.kla_callFunE hr.depth of1 rfl L.co L.gen rfl ⟨c', oc, vs, t, rfl, hoc, hdc, hvc⟩ ?_
    rw [show bindArgs _ ⟨[], []⟩ = pure [] from rfl]
    refine wpAny_pure (wpAny_newFunctionEnv (fun y hy => (L.own y hy).2) (fun y hy => absurd hy (by simp)) (fun h₁ hns hsb => ⟨I1.nolimit.fresh _ hsb, ?_⟩) L.kind)
    have kp : ∀ b o, s1.heap.get? b = some o → h₁.get? b = some o := fun b o e => hsb.extBut b o (Nat.ne_of_lt (Heap.lt_size e)) (Heap.get?_push_of_some _ e)
    have J := lam_begin (Y := ⟨P, w, K, mg, base, A⟩) (A := A.deeper (envOfC qg sg s.heap.objs.size g cdg)) (outer := envOfC qg sg s.heap.objs.size g cdg :: outer) (E := Ex) (q := q) (f := p) (c' := c') (tk := s1.toks + ([] : List (Str × Value)).length) S L I1.env0 hr.hd un hns kp
    have run := hL (A.deeper (envOfC qg sg s.heap.objs.size g cdg)) (envOfC qg sg s.heap.objs.size g cdg :: outer) s1 HZ Ex q scope p c' bodyE (hr.deeper _) hG L hck M Q EX h σ BZ HZ (SZ.slots hsn) Qv (fun cls d _ H' => Ex cls d H') (takes_of (E := Ex) rfl rfl rfl rfl) (fun v d M' B' H' g S' r z => kn v d M' B' H' g (S'.slots (SZ.sl.mono g.b)) r z) (fun C fs M' B' H' dx gs g S' hx r z => kx C fs M' B' H' dx gs g (S'.slots (SZ.sl.mono g.b)) hx r z)
    refine PySem.W.kla_codeExpr (wpAny_mono (run [] _ J) (fun v s' hq => ?_) fun e s' hq => hq)
    obtain ⟨w', H', J', rv, q⟩ := hq
    exact ⟨w', H', J'.os, J'.bare, J'.base, J'.hok, rv, q⟩
  refine wpAny_call (codeAny_mono rc fun r s' hq => ?_)
  · cases r with
    | error e => exact tk e s' (XE.of_call I1 (fun cls d H' h => h) hq)
    | ok fl =>
      cases fl with
      | ret u => exact I1.after hq
      | next => exact False.elim hq
      | brk => exact False.elim hq
      | cont => exact False.elim hq
end
end Wx
set_option Elab.async false
set_option linter.all false
set_option maxRecDepth 100000
set_option maxHeartbeats 8000000
/-! Wx, part 7: soundness of what resolved expressions ask. -/
namespace Wx
open PySem L2 Fx PySem.Spec PyProof.Rows
structure Fit (T : Tb) (c : Ck) (X : Cx) (Γ : Gm) : Prop where
  N : X.N = c.N
  sc : X.env.scope = c.sc
  nd : X.N.Nodup
  calm : X.calm = true
  us : ∀ i x, c.us[i]? = some x → X.mg x = some (Γ.v i) ∧ PySem.W.keepIn X.K (Γ.v i) = true
  bs : ∀ x ∈ c.bs, X.mg x = none
  top : c.top = true → ∀ x, X.fn x = true
  lm : c.top = true → Γ.lamOk → Γ.me.c = c ∧ ∃ cd P, Maker X T Γ.me cd P
  td : c.top = true → ∀ (pn : List (Addr × Obj)) (xe : Value → Shared → Prop) (i : Nat) (x : Str), c.us[i]? = some x → ∀ (l : Sl) (M : Mem) (p : Addr) (b : IE) (sn : Option (Sl × L2.St)) (Q : PD) (E : PX), M.at p = some (.lam Γ.me b sn) → (∀ σ, Γ.told i (Γ.lc b l) p (M.put p (.lam Γ.me b (some (l, σ)))) (fun d M' => ∃ M2 : Mem, M2.Sublist M' ∧ Q d M2) E) →
    CV (X.tr pn xe) T X.A (Γ.v i) [.ref p] l M Q E
  ac : c.top = true → ∀ (pn : List (Addr × Obj)) (xe : Value → Shared → Prop) (i : Nat) (x : Str) (p : Addr) (l : Sl) (M : Mem) (Q : PD) (E : PX) (pos pos' : Pos), c.N[i]? = some x → Vis X.env.scope x → (x == ("__debug__" : Str)) = false → (x == ("__classdict__" : Str)) = false → l[i]? = some (some (.ref p)) → Γ.act p M Q E →
    GE (X.tr pn xe) T (.Call (.Name x pos) [] [] pos') l M Q E
theorem Fit.blk {T : Tb} {c : Ck} {X : Cx} {Γ : Gm} (F : Fit T c X Γ) (s : Shared) (H : Hp) (scope : Scope) (cl : List (Str × Addr)) (C : Addr) (fp : List Addr) : Fit T { c with sc := relS scope c.sc, top := false } (X.blk s H scope (compEnvC scope cl C X.env) fp) Γ :=
  ⟨F.N, by rw [← F.sc]; rfl, F.nd, F.calm, F.us, F.bs, (fun z => nomatch z), (fun z => nomatch z), (fun z => nomatch z), fun z => nomatch z⟩
section
variable {T : Tb} {Γ : Gm} {c : Ck} {X : Cx}
theorem Fit.gl (F : Fit T c X Γ) {x : Str} (h : glB c.sc x = true) : Gl X x ∧ (x == ("__debug__" : Str)) = false := by
  unfold glB at h
  rw [Bool.and_eq_true, decide_eq_true_eq, Bool.not_eq_true'] at h
  refine ⟨?_, h.2⟩
  show X.env.scope.names.lookup x = _
  rw [F.sc]; exact h.1
theorem Fit.vis (F : Fit T c X Γ) {x : Str} (h : isVis c.sc x = true) : Vis X.env.scope x := by
  unfold isVis at h
  unfold Vis
  rw [F.sc]
  split at h
  · rename_i e; exact .inl e
  · rename_i e; exact .inr (.inl e)
  · rename_i e; exact .inr (.inr e)
  · cases h
/-- targets -/
theorem pg_one (F : Fit T c X Γ) {i : Nat} {e : Expr} (h : tg1 c i e = true) : PG X e (gName i) := by
  unfold tg1 at h
  split at h
  · rename_i x p
    rw [Bool.and_eq_true, Bool.or_eq_true, Bool.and_eq_true] at h
    simp only [decide_eq_true_eq] at h
    have hi : X.N[i]? = some x := by rw [F.N]; exact h.1
    rcases h.2 with z | ⟨z1, z2⟩
    · exact pg_name F.nd hi (.inl (by rw [F.sc]; exact z)) (.inr (by rw [F.sc]; exact z))
    · exact pg_name F.nd hi (.inr (by rw [F.sc]; exact z2)) (.inl (F.top z1 x))
  · cases h
theorem tg1_star {i : Nat} {e : Expr} (h : tg1 c i e = true) : plainE e = true := by
  unfold tg1 at h
  split at h
  · rfl
  · cases h
theorem each_of {e : Expr} {es : List Expr} {env : Env} (h : plainE e = true) : assignEach (e :: es) env = (false, assign e env) :: assignEach es env := by
  cases e <;> first | rfl | cases h
theorem pgs_each (F : Fit T c X Γ) : ∀ {is : List Nat} {es : List Expr}, tgEach c is es = true → PGs X es (gAll.gEach is) ∧ (assignEach es X.env).length = is.length ∧ (assignEach es X.env).findIdx? (·.1) = none
  | [], [], _ => ⟨pgs_nil, rfl, rfl⟩
  | [], _ :: _, h => by unfold tgEach at h; cases h
  | _ :: _, [], h => by unfold tgEach at h; cases h
  | i :: is, e :: es, h => by
    unfold tgEach at h
    rw [Bool.and_eq_true] at h
    obtain ⟨h1, h2, h3⟩ := pgs_each F h.2
    have he := each_of (es := es) (env := X.env) (tg1_star h.1)
    refine ⟨pgs_cons (pg_one F h.1) h1 (by rw [he]; rfl), by rw [he]; simp [h2], by rw [he, List.findIdx?_cons, h3]; rfl⟩
theorem pg_all (F : Fit T c X Γ) {is : List Nat} {e : Expr} (h : tgB c is e = true) : PG X e (gAll X.K is) := by
  unfold tgB at h
  split at h
  · exact pg_one F h
  · rename_i is0 hn
    split at h
    · rename_i es k p
      obtain ⟨h1, h2, h3⟩ := pgs_each F h
      have e : gAll X.K is = gTup X.K is.length (gAll.gEach is) := by
        match is, hn with
        | [], _ => rfl
        | [i], hn => exact (hn i rfl).elim
        | _ :: _ :: _, _ => rfl
      rw [e]
      exact pg_tup F.calm h1 h2 h3
    · cases h
/-- the tests of a block -/
theorem whole_of {e : Expr} {env : Env} (h1 : plainE e = true) (h2 : ∀ a p, e ≠ .UnaryOp .Not a p) (h3 : ∀ o v p, e ≠ .BoolOp o v p) (h4 : ∀ a b c p, e ≠ .IfExp a b c p) (h5 : ∀ a o b p, e ≠ .Compare a o b p) :
    ∀ whole, isTrue e env whole = (do let v ← whole; standAt e.pos; holding [v] (truthy v)) := fun whole => by
  cases e <;> first
    | rfl
    | exact absurd rfl (h3 _ _ _)
    | exact absurd rfl (h4 _ _ _ _)
    | exact absurd rfl (h5 _ _ _ _)
    | (rename_i op a p
       cases op <;> first | rfl | exact absurd rfl (h2 _ _))
theorem marks_of {o o' : CmpOp} {a b : Expr} (h : plainE b = true) : lastMarks [o, o'] [a, b] = false := mark_of h
theorem GO.imp {e : Option Expr} {l : Sl} {M : Mem} {Q Q' : Option Int → Mem → Prop} {E : PX} (h : GO X T e l M Q E) (q : ∀ d M', Q d M' → Q' d M') : GO X T e l M Q' E := fun σ B H S Qv W tk kn kx =>
  h σ B H S Qv W tk (fun i M' B' H' g S' z => kn i M' B' H' g S' (q i M' z)) kx
theorem GI.imp {tg e : Expr} {l : Sl} {M : Mem} {Q Q' : List D → Mem → Prop} {E : PX} (h : GI X T tg e l M Q E) (q : ∀ d M', Q d M' → Q' d M') : GI X T tg e l M Q' E := fun σ B H S R W tk kr kx =>
  h σ B H S R W tk (fun J ds M' B' H' g S' wk z => kr J ds M' B' H' g S' wk (q ds M' z)) kx
theorem GW.imp {e : Expr} {l : Sl} {M : Mem} {Q Q' : Bool → Mem → Prop} {E : PX} (h : GW X T e l M Q E) (q : ∀ d M', Q d M' → Q' d M') : GW X T e l M Q' E := fun σ B H S Qv W tk kn kx =>
  h σ B H S Qv W tk (fun b M' B' H' g S' z => kn b M' B' H' g S' (q b M' z)) kx
theorem ckL_nil {xs : List IE} (h : ckL c xs [] = true) : xs = [] := by
  cases xs with
  | nil => rfl
  | cons x xs => unfold ckL at h; cases h
theorem ckL_head {xs : List IE} {e : Expr} {r : List Expr} (h : ckL c xs (e :: r) = true) : plainE e = true ∧ ∀ env pos, (backTo pos (starEach r env)).any (·.1) = false := by
  cases xs with
  | nil => unfold ckL at h; cases h
  | cons x xs =>
    unfold ckL at h
    dsimp only at h
    rw [Bool.and_eq_true] at h
    exact ⟨ck_plain h.1, fun env pos => stars_of h.2⟩
theorem ckI_plain {it : IT} {tg e : Expr} (h : ckI c it tg e = true) : plainE e = true := by
  cases it with
  | li x => unfold ckI at h; exact ck_plain h
  | ra x => unfold ckI at h; split at h <;> first | rfl | cases h
  | en x => unfold ckI at h; split at h <;> first | rfl | cases h
  | zi x y => unfold ckI at h; split at h <;> first | rfl | cases h
/-- keywords: all named, the names are ks -/
theorem ckK_facts {env : Env} {pos : Pos} : ∀ {ks : List Str} {xs : List IE} {kw : List Keyword}, ckK c ks xs kw = true → (backToKw pos (keywordEach kw env)).all (·.1.isSome) = true ∧ (backToKw pos (keywordEach kw env)).filterMap (·.1) = ks ∧ (backToKw pos (keywordEach kw env)).any (·.1.isNone) = false
  | ks, [], kw, h => by
    unfold ckK at h
    split at h
    · exact ⟨rfl, rfl, rfl⟩
    · cases h
  | ks, x :: xs, kw, h => by
    unfold ckK at h
    split at h
    · rename_i k ks k' e p kw
      simp only [Bool.and_eq_true, decide_eq_true_eq] at h
      obtain ⟨⟨rfl, _⟩, h2⟩ := h
      obtain ⟨a, b, d⟩ := ckK_facts (env := env) (pos := pos) h2
      refine ⟨?_, ?_, ?_⟩
      · show (true && (backToKw pos (keywordEach kw env)).all (·.1.isSome)) = true
        rw [a]; rfl
      · show k :: (backToKw pos (keywordEach kw env)).filterMap (·.1) = _
        rw [b]
      · show (false || (backToKw pos (keywordEach kw env)).any (·.1.isNone)) = false
        rw [d]; rfl
    · cases h
theorem or_ff {a b : Bool} (h : a = false) (k : b = false) : (a || b) = false := by rw [h, k]; rfl
theorem any_cons_plain {e : Expr} {es : List Expr} {env : Env} {pos : Pos} (h : plainE e = true) (k : (backTo pos (starEach es env)).any (·.1) = false) : (backTo pos (starEach (e :: es) env)).any (·.1) = false := by
  rw [star_of h]
  show (false || (backTo pos (starEach es env)).any (·.1)) = false
  rw [k]; rfl
/-- no test, or one -/
def GTs (X : Cx) (T : Tb) (es : List Expr) (l : Sl) (M : Mem) (Q : Bool → Mem → Prop) (E : PX) : Prop := match es with
  | [] => Q true M
  | [e] => GT X T e l M Q E
  | _ => False
/-- a value's form as a test -/
def valE : IE → Bool
  | .not _ | .and _ | .or _ | .cmp _ _ _ | .cm2 _ _ _ _ _ | .ite _ _ _ => false
  | _ => true
theorem whole_v {x : IE} {e : Expr} {env : Env} (h : ck c x e = true) (hv : valE x = true := by rfl) : ∀ whole, isTrue e env whole = (do let v ← whole; standAt e.pos; holding [v] (truthy v)) := by
  refine whole_of (ck_plain h) (fun a p q => ?_) (fun o v p q => ?_) (fun a b d p q => ?_) (fun a o b p q => ?_) <;> subst q <;> cases x <;> first
    | (cases hv; done)
    | (unfold ck at h; cases h; done)
    | (rename_i s es; unfold ck at h; cases s <;> (unfold subs at h; simp at h); done)
    | (unfold ck at h; dsimp only at h; simp at h; done)
/-- a comprehension, its parts by what their resolved forms ask -/
theorem lc_core {elt : IE} {tg : List Nat} {ifs : List IE} {own : List (Str × Nat)} {l : Sl} {M : Mem} {Q : PD} {E : PX} {elt' tg' iter' : Expr} {ifs' : List Expr} {scope : Scope}
    (hts : ∀ (s : Shared) (H : Hp) (C : Addr) (cl : List (Str × Addr)) (fp : List Addr) {l : Sl} {M : Mem} {Q : Bool → Mem → Prop} {E : PX}, wTs (cof X) T Γ ifs l M Q E → GTs (X.blk s H scope (compEnvC scope cl C X.env) fp) T ifs' l M Q E)
    (hel : ∀ (s : Shared) (H : Hp) (C : Addr) (cl : List (Str × Addr)) (fp : List Addr) {l : Sl} {M : Mem} {Q : PD} {E : PX}, wE (cof X) T Γ elt l M Q E → GE (X.blk s H scope (compEnvC scope cl C X.env) fp) T elt' l M Q E)
    (h4 : ∀ i ∈ tg, i ∈ own.map (·.2))
    (gi : GI X T tg' iter' l M (fun ds M1 => ds.length ≤ sizeLine ∧ ((∃ (t : Nat → D → Bool) (Pe : Nat → D → D → Prop),
      (∀ i d, ds[i]? = some d → ∃ ps, partsOf tg.length d = some ps ∧ wTs (cof X) T Γ ifs (setAll (wipeS l (own.map (·.2))) tg ps) M1 (fun b M2 => M2 = M1 ∧ b = t i d) (fun _ _ _ => False) ∧
        (t i d = true → wE (cof X) T Γ elt (setAll (wipeS l (own.map (·.2))) tg ps) M1 (fun e M2 => M2 = M1 ∧ Pe i d e) fun _ _ _ => False)) ∧
      ∀ es : List D, (∃ lo : List (Option D), lo.length = ds.length ∧ es = lo.filterMap id ∧ ∀ (i : Nat) (d : D), ds[i]? = some d → (t i d = false ∧ lo[i]? = some none) ∨ (t i d = true ∧ ∃ e, lo[i]? = some (some e) ∧ Pe i d e)) → Q (.lst es) M1) ∨
    ∃ I : Nat → List D → Mem → Prop, I 0 [] M1 ∧
      (∀ i d acc M2, ds[i]? = some d → I i acc M2 → ∃ ps, partsOf tg.length d = some ps ∧ wTs (cof X) T Γ ifs (setAll (wipeS l (own.map (·.2))) tg ps) M2 (fun b M3 => (b = false → I (i + 1) acc M3) ∧
        (b = true → wE (cof X) T Γ elt (setAll (wipeS l (own.map (·.2))) tg ps) M3 (fun e M4 => I (i + 1) (acc ++ [e]) M4) fun _ _ _ => False)) (fun _ _ _ => False)) ∧
      ∀ acc M2, I ds.length acc M2 → Q (.lst acc) M2)) E) :
    ∃ tt : TT, (∀ (s : Shared) (H : Hp) (C : Addr) (cl : List (Str × Addr)) (fp : List Addr), PTs (X.blk s H scope (compEnvC scope cl C X.env) fp) ifs' tt) ∧
      ∀ σ B H, StR X.K T l M σ B H → ∀ (Qv : VK) (W : WX), Takes X W → KnD X.K T l M σ B H Qv Q → KnX X.K T l M σ B H W E → tLc (RI X tg' iter') (gAll X.K tg) tt (BE X scope elt') (own.map (·.2)) σ H Qv := by
  -- a test of the block, by its resolved form
  obtain ⟨tt, ht, run⟩ : ∃ tt : TT, (∀ (s : Shared) (H : Hp) (C : Addr) (cl : List (Str × Addr)) (fp : List Addr), PTs (X.blk s H scope (compEnvC scope cl C X.env) fp) ifs' tt) ∧
      ∀ {l : Sl} {M : Mem} {R : Bool → Mem → Prop}, wTs (cof X) T Γ ifs l M R (fun _ _ _ => False) → ∀ σ B H, StR X.K T l M σ B H → ∀ Qv, KnB X.K T l M σ B H Qv R → tt σ H Qv := by
    match ifs', hts with
    | [], hts => exact ⟨tYes, fun _ _ _ _ _ => pts_nil, fun {l M R} w σ B H S Qv kn => kn true M B H Go.refl S (hts X.s_0 H 0 [] [] w)⟩
    | [f], hts => exact ⟨BT X scope f, fun s H C cl fp => pts_one (cBT s H C cl fp), fun {l M R} w σ B H S Qv kn s H0 C cl fp => hts s H0 C cl fp w σ B H S Qv (fun _ _ _ _ => False) LamX.takes0 kn fun _ _ _ _ _ _ _ _ _ _ _ z => z.elim⟩
    | x :: y :: r, hts => exact ⟨fun _ _ _ => False, fun s H C cl fp => ⟨fun _ _ _ _ _ _ z => z.elim⟩, fun {l M R} w σ B H S Qv kn => hts X.s_0 H 0 [] [] w⟩
  refine ⟨tt, ht, fun σ B H S Qv W tk kn kx => lcI (Q := Q) h4 (gi.imp fun ds M1 ⟨z, h⟩ => ⟨z, ?_⟩) S tk kn kx⟩
  rcases h with ⟨t, Pe, hp, k⟩ | ⟨I, i0, hp, k⟩
  · refine ⟨fun n acc M2 => M2 = M1 ∧ ∃ lo : List (Option D), lo.length = n ∧ acc = lo.filterMap id ∧ ∀ (i : Nat) (d : D), i < n → ds[i]? = some d → (t i d = false ∧ lo[i]? = some none) ∨ (t i d = true ∧ ∃ e, lo[i]? = some (some e) ∧ Pe i d e), ⟨rfl, [], rfl, rfl, fun i d hi => absurd hi (Nat.not_lt_zero _)⟩, fun i d acc M2 hd ⟨e, lo, l1, l2, l3⟩ => ?_, fun acc M2 ⟨e, lo, l1, l2, l3⟩ => ?_⟩
    · subst e
      obtain ⟨ps, a1, a2, a3⟩ := hp i d hd
      have ext : ∀ {o : Option D}, ((t i d = false ∧ o = none) ∨ (t i d = true ∧ ∃ e, o = some e ∧ Pe i d e)) → ∀ (j : Nat) (d' : D), j < i + 1 → ds[j]? = some d' → (t j d' = false ∧ (lo ++ [o])[j]? = some none) ∨ (t j d' = true ∧ ∃ e, (lo ++ [o])[j]? = some (some e) ∧ Pe j d' e) := fun {o} hn j d' hj hd' => by
        by_cases q : j < i
        · rcases l3 j d' q hd' with ⟨z1, z2⟩ | ⟨z1, e', z2, z3⟩
          · exact .inl ⟨z1, by rw [List.getElem?_append_left (by omega)]; exact z2⟩
          · exact .inr ⟨z1, e', by rw [List.getElem?_append_left (by omega)]; exact z2, z3⟩
        · have ej : j = i := by omega
          subst ej
          rw [hd] at hd'; cases hd'
          rcases hn with ⟨z1, z2⟩ | ⟨z1, e', z2, z3⟩
          · exact .inl ⟨z1, by rw [List.getElem?_append_right (by omega), l1, z2]; simp⟩
          · exact .inr ⟨z1, e', by rw [List.getElem?_append_right (by omega), l1, z2]; simp, z3⟩
      refine ⟨ps, a1, fun σ B H S Qv kn => run a2 σ B H S Qv fun b M3 B3 H3 g S3 ⟨e, eb⟩ => kn b M3 B3 H3 g S3 ?_⟩
      subst e
      subst eb
      refine ⟨fun tf => ⟨rfl, lo ++ [none], by simp [l1], by simp [l2], ext (.inl ⟨tf, rfl⟩)⟩, fun tt2 s H0 C cl fp => (hel s H0 C cl fp (a3 tt2)).imp fun e M4 ⟨e4, pe⟩ => ⟨e4, lo ++ [some e], by simp [l1], by simp [l2], ext (.inr ⟨tt2, e, rfl, pe⟩)⟩⟩
    · subst e
      exact k acc ⟨lo, l1, l2, fun i d hd => l3 i d (List.getElem?_eq_some_iff.mp hd).1 hd⟩
  · refine ⟨I, i0, fun i d acc M2 hd hI => ?_, k⟩
    obtain ⟨ps, a1, a2⟩ := hp i d acc M2 hd hI
    exact ⟨ps, a1, fun σ B H S Qv kn => run a2 σ B H S Qv fun b M3 B3 H3 g S3 ⟨z1, z2⟩ => kn b M3 B3 H3 g S3 ⟨z1, fun q s H0 C cl fp => hel s H0 C cl fp (z2 q)⟩⟩
theorem con_pe {X : Cx} {d : D} {e : Expr} (h : conB d e = true) : ∃ v, PE X e (tC v) ∧ ∀ B : Hp, Rp X.K B d v := by
  unfold conB at h
  split at h
  · exact ⟨_, pe_non, fun B => by simp only [Rp]⟩
  · rw [decide_eq_true_eq] at h; subst h; exact ⟨_, pe_bl, fun B => Rp.bl.mpr rfl⟩
  · rw [decide_eq_true_eq] at h; subst h; exact ⟨_, pe_int, fun B => Rp.int.mpr rfl⟩
  · rw [decide_eq_true_eq] at h; subst h; exact ⟨_, pe_str, fun B => Rp.str.mpr rfl⟩
  · cases h
theorem key_pe {X : Cx} {k : Key} {e : Expr} (h : keyB k e = true) : PE X e (tC (kV k)) := by
  unfold keyB at h
  split at h
  · rw [decide_eq_true_eq] at h; subst h; exact pe_int
  · rw [decide_eq_true_eq] at h; subst h; exact pe_str
  · cases h
theorem pps_of {X : Cx} {pos : Pos} : ∀ {kvs : List (Key × D)} {ks : List (Option Expr)} {vs : List Expr}, dispB kvs ks vs = true → ∃ xs : List (Key × V), PPs X pos ks vs (xs.map fun q => (tC (kV q.1), tC q.2)) ∧ (∀ B : Hp, RpK X.K B kvs xs) ∧ ks.all (·.isSome) = true ∧ ks.length = vs.length ∧ ks.length = kvs.length ∧ xs.map (·.1) = kvs.map (·.1)
  | [], [], [], _ => ⟨[], pps_nil, fun B => by simp only [RpK], rfl, rfl, rfl, rfl⟩
  | (k, d) :: r, some a :: ks, b :: vs, h => by
    unfold dispB at h
    simp only [Bool.and_eq_true] at h
    obtain ⟨⟨h1, h2⟩, h3⟩ := h
    obtain ⟨xs, p1, p2, p3, p4, p5, p6⟩ := pps_of h3
    obtain ⟨v, q1, q2⟩ := con_pe (X := X) h2
    exact ⟨(k, v) :: xs, pps_cons (key_pe h1) q1 p1, fun B => by simp only [RpK]; exact ⟨v, xs, rfl, q2 B, p2 B⟩, by simp [p3], by simp [p4], by simp [p5], by simp [p6]⟩
  | [], [], _ :: _, h => by unfold dispB at h; cases h
  | [], _ :: _, _, h => by unfold dispB at h; cases h
  | _ :: _, [], _, h => by unfold dispB at h; cases h
  | _ :: _, some _ :: _, [], h => by unfold dispB at h; cases h
  | _ :: _, none :: _, _, h => by unfold dispB at h; cases h
theorem tpairs_c {σ : L2.St} {H : Hp} {Q : List (V × V) → Hp → Prop} : ∀ {xs : List (Key × V)} , Q (xs.map fun q => (kV q.1, q.2)) H → tPairs (xs.map fun q => (tC (kV q.1), tC q.2)) σ H Q := by
  intro xs
  induction xs generalizing Q with
  | nil => exact id
  | cons x xs ih =>
    intro q
    rw [List.map_cons, tPairs]
    exact ih (Q := fun ps H3 => Q ((kV x.1, x.2) :: ps) H3) (by simpa using q)
theorem merge_new : ∀ {xs acc : List (Key × V)}, ((acc ++ xs).map (·.1)).Nodup → mergeK acc xs = acc ++ xs
  | [], acc, _ => by rw [List.append_nil]; rfl
  | x :: xs, acc, h => by
    have hn : valV acc x.1 = none := by
      unfold valV
      rw [Option.map_eq_none_iff, List.find?_eq_none]
      intro y hy
      simp only [decide_eq_true_eq]
      intro e
      rw [List.map_append, List.map_cons] at h
      exact (List.nodup_append.mp h).2.2 y.1 (List.mem_map.mpr ⟨y, hy, rfl⟩) x.1 List.mem_cons_self e
    show mergeK (putK acc x.1 x.2) xs = _
    rw [putK_new _ hn]
    have h2 := merge_new (xs := xs) (acc := acc ++ [(x.1, x.2)]) (by simpa using h)
    rw [h2]; simp
theorem en_dicC {X : Cx} {σ : L2.St} {B : Hp} {kvs : List (Key × D)} {ks : List (Option Expr)} {vs : List Expr} {pos : Pos} (h : dispB kvs ks vs = true) (h0 : kvs ≠ []) (h15 : kvs.length ≤ 15) (nd : (kvs.map (·.1)).Nodup) : EN X (.Dict ks vs pos) σ B (Eq (.dic kvs)) := fun B1 H _ e2 Q k => by
  obtain ⟨xs, p1, p2, p3, p4, p5, p6⟩ := pps_of (X := X) (pos := pos) h
  have l : xs.length = kvs.length := by have := congrArg List.length p6; simpa using this
  refine RE.of (pe_disp p1 p3 p4 (fun z => h0 (List.length_eq_zero_iff.mp (by rw [← p5, z]; rfl))) (by rw [p5]; exact h15)) fun p hp => tpairs_c ⟨upd_same, xs, rfl, by omega, ?_⟩
  have e : upd (upd H p (.dK [])) p (.dK (mergeK [] xs)) = upd H p (.dK xs) := by
    rw [merge_new (by rw [List.nil_append, p6]; exact nd), List.nil_append]
    funext b
    by_cases z : b = p
    · subst z; rw [upd_same, upd_same]
    · rw [upd_ne z, upd_ne z, upd_ne z]
  rw [e]
  exact k (.ref p) _ _ _ (Step.alloc (o := .dK xs) e2 hp) rfl (by simp only [Rp]; exact ⟨p, xs, rfl, .inl upd_same, p2 _⟩)
theorem cr_range1 {X : Cx} : CallR X (.type "range") (fun vs H Q => ∃ j : Int, vs = [V.int j] ∧ ∀ p, H p = none → Q (.ref p) (upd H p (.rng 0 j))) := by
  intro pins s σ H vs us Q I r h
  obtain ⟨j, rfl, q⟩ := h
  obtain ⟨u1, rfl, rj⟩ := vals1 r
  obtain ⟨u, rfl⟩ := rj
  refine call_range_1 ⟨.ref s.heap.objs.size, upd H s.heap.objs.size (.rng 0 j), I.laid (t' := s.toks + 1 + 1) (fun b o e => Heap.get?_push_of_some _ e) (Nat.le_refl _) ?_, rfl, q _ (I.hok.fresh (Nat.le_refl _))⟩
  exact ⟨s.toks, u, s.toks + 1, Heap.get?_push_size _ rfl⟩
theorem rsize (n : Nat) : Builtin.Range.rangeSize 0 (n : Int) 1 = (n : Int) := by
  unfold Builtin.Range.rangeSize
  rw [if_pos (by decide)]
  by_cases h : (0 : Int) < n
  · rw [if_pos h, Int.ediv_one]; omega
  · rw [if_neg h]; omega
theorem cr_listRng {X : Cx} (hc : X.calm = true) : CallR X (.type "list") (fun vs H Q => ∃ (p : Addr) (n : Nat), vs = [V.ref p] ∧ H p = some (.rng 0 n) ∧ n ≤ 16777216 ∧ ∀ q, H q = none → Q (.ref q) (upd H q (.lst ((List.range n).map fun (i : Nat) => V.int (i : Int))))) := by
  intro pins s σ H vs us Q I r h
  obtain ⟨p, n, rfl, hp, hn, q⟩ := h
  obtain ⟨u1, rfl, rj⟩ := vals1 r
  obtain rfl : u1 = Value.ref p := rj
  obtain ⟨t, u, v, hr⟩ := (show ObjOk X.prog X.w H s.heap p (.rng 0 n) from I.hok p _ hp)
  have f1 : ∀ x : Int, 0 ≤ x → x ≤ 16777217 → Builtin.Range.rangeFitsLong x = true := fun x h1 h2 => by
    unfold Builtin.Range.rangeFitsLong
    simp only [Bool.and_eq_true, decide_eq_true_eq]
    omega
  have sm : Builtin.Range.small 0 (n : Int) 1 = true := by
    unfold Builtin.Range.small
    rw [rsize, f1 0 (by decide) (by decide), f1 n (by omega) (by omega), f1 1 (by decide) (by decide), if_pos (by decide), f1 ((n : Int) + (1 - 1)) (by omega) (by omega)]
    simp
  refine call_list_range (n := n) (I.ok.hd hc) hr sm (rsize n) (by exact hn) fun h' tk acc c' kp e it => ?_
  refine ⟨.ref s.heap.objs.size, _, I.laid (t' := tk) kp (Nat.le_refl _) (show ObjOk X.prog X.w _ h' _ (.lst ((List.range n).map fun (i : Nat) => V.int (i : Int))) from ⟨?_, acc.toList, c', ?_, by simpa using e⟩), rfl, q _ (I.hok.fresh (Nat.le_refl _))⟩
  · rw [List.length_map, List.length_range, sizeLine_eq]; omega
  · refine vals_of_at (by rw [List.length_map, List.length_range, Array.length_toList, it.1]) fun j x w h1 h2 => ?_
    obtain ⟨t, ht⟩ := it.2 j w (by rw [← Array.getElem?_toList]; exact h2)
    have hj : j < n := by
      have := (List.getElem?_eq_some_iff.mp h1).1
      rw [List.length_map, List.length_range] at this; exact this
    rw [List.getElem?_map, List.getElem?_range hj] at h1
    cases h1
    rw [ht]
    exact ⟨t, by rw [Int.zero_add, Int.mul_one]⟩
theorem rpl_ints {K : PySem.W.Frag} {B : Hp} : ∀ l : List Nat, RpL K B (l.map fun (i : Nat) => D.int (i : Int)) (l.map fun (i : Nat) => V.int (i : Int))
  | [] => RpL.nil
  | i :: r => RpL.cons (Rp.int.mpr rfl) (rpl_ints r)
theorem ge_lrng (hc : X.calm = true) {a : Expr} {p1 p2 q1 q2 : Pos} {l : Sl} {M : Mem} {Q : PD} {E : PX} (h : GL X T [a] l M (fun ds M1 => ∃ n : Nat, ds = [.int (n : Int)] ∧ n ≤ 16777216 ∧ Q (.lst (upTo n)) M1) E) (g1 : Gl X "list") (m1 : X.mg "list" = none) (g2 : Gl X "range") (m2 : X.mg "range" = none) (he : starEach [a] X.env = (false, eval a X.env) :: starEach [] X.env) :
    GE X T (.Call (.Name "list" p1) [.Call (.Name "range" p2) [a] [] q2] [] q1) l M Q E := fun σ B H S Qv W tk kn kx =>
  RE.of (pe_callTy (cr_listRng hc) g1 m1 rfl (pa_cons (pe_callTy cr_range1 g2 m2 rfl cA (by decide) (by decide) he rfl) pa_nil) (by decide) (by decide) rfl rfl) (h σ B H S _ W tk (fun vs ds M1 B1 H1 g S1 r ⟨n, e, hn, q⟩ => by
    subst e
    obtain ⟨v, rfl, rv⟩ := rpl1 r
    cases Rp.int.mp rv
    refine ⟨n, rfl, fun p hp => ⟨p, n, rfl, upd_same, hn, fun z hz => ?_⟩⟩
    have st1 := Step.alloc (o := .rng 0 (n : Int)) S1.ex hp
    obtain ⟨g2, S2⟩ := S1.step st1
    have st2 := Step.alloc (o := .lst ((List.range n).map fun (i : Nat) => V.int (i : Int))) S2.ex hz
    obtain ⟨g3, S3⟩ := S2.step st2
    exact kn _ _ M1 _ _ ((g.trans g2).trans g3) S3 (rpN nt_ex (Rp.lst.mpr ⟨z, _, rfl, upd_same, rpl_ints _⟩)) q) kx)
/-- a further form, its parts by what they ask -/
theorem sPr (F : Fit T c X Γ) {s : Sh} {e : Expr} {es : List Expr} (h : subs c s e = some es) {l : Sl} {M : Mem} {Q : PD} {E : PX} (w : GL X T es l M (fun ds M1 => PQ Γ s ds l M1 Q E) E) (w0 : es = [] → PQ Γ s [] l M Q E) : GE X T e l M Q E := by
  cases s with
  | told x i =>
    simp only [subs] at h
    split at h
    · rename_i y p a pos
      split at h
      · rename_i hc
        cases h
        simp only [Bool.and_eq_true, decide_eq_true_eq] at hc
        obtain ⟨⟨⟨⟨rfl, h1⟩, h2⟩, h3⟩, hp⟩ := hc
        obtain ⟨g1, g2⟩ := F.gl h2
        obtain ⟨u1, u2⟩ := F.us i x h1
        exact ge_cu (w.imp fun ds M1 ⟨p, b, sn, e1, e2, e3⟩ => by subst e1; exact F.td h3 X.pn X.xe i x h1 l M1 p b sn Q E e2 e3) g1 u1 u2 g2 (star_of hp) rfl
      · cases h
    · cases h
  | lrng =>
    simp only [subs] at h
    split at h
    · rename_i y p z p2 a q2 q1
      split at h
      · rename_i hc
        cases h
        simp only [Bool.and_eq_true, decide_eq_true_eq] at hc
        obtain ⟨⟨⟨⟨⟨⟨rfl, rfl⟩, h1⟩, h2⟩, h3⟩, h4⟩, hp⟩ := hc
        exact ge_lrng F.calm w (F.gl h3).1 (F.bs _ h1) (F.gl h4).1 (F.bs _ h2) (star_of hp)
      · cases h
    · cases h
  | dicC kvs =>
    simp only [subs] at h
    split at h
    · rename_i ks vs pos
      split at h
      · rename_i hc
        cases h
        simp only [Bool.and_eq_true, decide_eq_true_eq, Bool.not_eq_true', List.isEmpty_eq_false_iff] at hc
        obtain ⟨⟨⟨h1, h2⟩, h3⟩, h4⟩ := hc
        exact GE.ofEN (fun σ B _ => en_dicC h1 h2 h3 h4) fun d q => q ▸ w0 rfl
      · cases h
    · cases h
  | act i =>
    simp only [subs] at h
    split at h
    · rename_i y p pos
      split at h
      · rename_i hc
        cases h
        simp only [Bool.and_eq_true, decide_eq_true_eq] at hc
        obtain ⟨⟨⟨h1, h2⟩, h3⟩, h4⟩ := hc
        unfold nmB at h3
        rw [Bool.and_eq_true, Bool.not_eq_true', Bool.not_eq_true'] at h3
        obtain ⟨q, hq, ha⟩ := w0 rfl
        exact F.ac h4 X.pn X.xe i y q l M Q E p pos h1 (F.vis h2) h3.1 h3.2 hq ha
      · cases h
    · cases h
end
end Wx
set_option Elab.async false
set_option linter.all false
set_option maxRecDepth 100000
set_option maxHeartbeats 8000000
/-! Wx, part 7: soundness of what resolved expressions ask. -/
namespace Wx
open PySem L2 Fx PySem.Spec PyProof.Rows
section
variable {T : Tb} {Γ : Gm} {c : Ck} {X : Cx}
set_option maxRecDepth 100000
mutual
theorem sE {c : Ck} {X : Cx} (F : Fit T c X Γ) : (x : IE) → (e : Expr) → ck c x e = true → ∀ {l : Sl} {M : Mem} {Q : PD} {E : PX}, wE (cof X) T Γ x l M Q E → GE X T e l M Q E
  | .v i, e, h, l, M, Q, E, w => by
    unfold ck at h
    split at h
    · rename_i x p
      unfold wE at w
      rw [Bool.and_eq_true, Bool.and_eq_true, decide_eq_true_eq] at h
      obtain ⟨⟨h1, h2⟩, h3⟩ := h
      unfold nmB at h3
      rw [Bool.and_eq_true, Bool.not_eq_true', Bool.not_eq_true'] at h3
      obtain ⟨d, w1, w2⟩ := w
      exact ge_var w1 w2 (by rw [F.N]; exact h1) (F.vis h2) h3.1 h3.2
    · cases h
  | .int n, e, h, l, M, Q, E, w => by
    unfold ck at h
    split at h
    · rw [decide_eq_true_eq] at h
      subst h
      unfold wE at w
      exact GE.ofEN (fun σ B _ => en_int) fun d q => q ▸ w
    · cases h
  | .str n, e, h, l, M, Q, E, w => by
    unfold ck at h
    split at h
    · rw [decide_eq_true_eq] at h
      subst h
      unfold wE at w
      exact GE.ofEN (fun σ B _ => en_str) fun d q => q ▸ w
    · cases h
  | .bl n, e, h, l, M, Q, E, w => by
    unfold ck at h
    split at h
    · rw [decide_eq_true_eq] at h
      subst h
      unfold wE at w
      exact GE.ofEN (fun σ B _ => en_bl) fun d q => q ▸ w
    · cases h
  | .non, e, h, l, M, Q, E, w => by
    unfold ck at h
    split at h
    · unfold wE at w
      exact GE.ofEN (fun σ B _ => en_non) fun d q => q ▸ w
    · cases h
  | .gl x, e, h, l, M, Q, E, w => by
    unfold ck at h
    split at h
    · rw [Bool.and_eq_true, decide_eq_true_eq] at h
      obtain ⟨rfl, h⟩ := h
      obtain ⟨h1, h2⟩ := F.gl h
      unfold wE at w
      obtain ⟨d, g, w⟩ := w
      rcases g with ⟨v, u, g1, g2, g3⟩ | ⟨n, g1, g2, g3, rfl⟩
      · exact ge_glob g1 g2 g3 w h1 h2
      · exact GE.ofEN (fun σ B _ => en_ty g1 g2 h1 g3 h2) fun d q => q ▸ w
    · cases h
  | .bin op a b, e, h, l, M, Q, E, w => by
    unfold ck at h
    split at h
    · rw [Bool.and_eq_true, Bool.and_eq_true, decide_eq_true_eq] at h
      obtain ⟨⟨rfl, h1⟩, h2⟩ := h
      unfold wE at w
      exact ge_bin ((sE F a _ h1 w).imp fun x M1 w => (sE F b _ h2 w).imp fun y M2 w => w X l rfl F.calm)
    · cases h
  | .cmp op a b, e, h, l, M, Q, E, w => by
    unfold ck at h
    split at h
    · rw [Bool.and_eq_true, Bool.and_eq_true, decide_eq_true_eq] at h
      obtain ⟨⟨rfl, h1⟩, h2⟩ := h
      unfold wE at w
      exact ge_cmp ((sE F a _ h1 w).imp fun x M1 w => (sE F b _ h2 w).imp fun y M2 w => w X l rfl F.calm) (mark_of (ck_plain h2))
    · cases h
  | .cm2 o o' a b d, e, h, l, M, Q, E, w => by
    unfold ck at h
    split at h
    · simp only [Bool.and_eq_true, decide_eq_true_eq] at h
      obtain ⟨⟨⟨⟨rfl, rfl⟩, h1⟩, h2⟩, h3⟩ := h
      unfold wE at w
      exact ge_cm2 ((sE F a _ h1 w).imp fun x M1 w => (sE F b _ h2 w).imp fun y M2 w => (w X l rfl F.calm).imp fun z M3 ⟨t, e, w0, w1⟩ => ⟨t, e, w0, fun q => (sE F d _ h3 (w1 q)).imp fun z M4 w => w X l rfl F.calm⟩) (marks_of (ck_plain h3))
    · cases h
  | .and es, e, h, l, M, Q, E, w => by
    unfold ck at h
    split at h
    · unfold wE at w
      exact sAnd F es _ _ h w
    · cases h
  | .or es, e, h, l, M, Q, E, w => by
    unfold ck at h
    split at h
    · unfold wE at w
      exact sOr F es _ _ h w
    · cases h
  | .not a, e, h, l, M, Q, E, w => by
    unfold ck at h
    split at h
    · unfold wE at w
      exact ge_not (sE F a _ h w)
    · cases h
  | .un op a, e, h, l, M, Q, E, w => by
    unfold ck at h
    split at h
    · rw [Bool.and_eq_true, Bool.and_eq_true, decide_eq_true_eq] at h
      obtain ⟨⟨rfl, _⟩, h1⟩ := h
      unfold wE at w
      exact ge_un ((sE F a _ h1 w).imp fun x M1 w => w X l rfl F.calm)
    · cases h
  | .ite d a b, e, h, l, M, Q, E, w => by
    unfold ck at h
    split at h
    · rw [Bool.and_eq_true, Bool.and_eq_true] at h
      obtain ⟨⟨h1, h2⟩, h3⟩ := h
      unfold wE at w
      exact ge_if ((sT F d _ h1 w).imp fun t M1 ⟨w1, w2⟩ => ⟨fun q => sE F a _ h2 (w1 q), fun q => sE F b _ h3 (w2 q)⟩)
    · cases h
  | .lst es, e, h, l, M, Q, E, w => by
    unfold ck at h
    split at h
    · unfold wE at w
      exact ge_lst (sA F es _ h w)
    · cases h
  | .tup es, e, h, l, M, Q, E, w => by
    unfold ck at h
    split at h
    · unfold wE at w
      exact ge_tup (sA F es _ h w)
    · cases h
  | .dic0, e, h, l, M, Q, E, w => by
    unfold ck at h
    split at h
    · unfold wE at w
      exact GE.ofEN (fun σ B _ => en_dic0) fun d q => q ▸ w
    · cases h
  | .ix a b, e, h, l, M, Q, E, w => by
    unfold ck at h
    split at h
    · rw [Bool.and_eq_true] at h
      unfold wE at w
      exact ge_ix ((sE F a _ h.1 w).imp fun x M1 w => (sE F b _ h.2 w).imp fun y M2 w => w X l rfl F.calm) (plainIx_of (ck_plain h.2))
    · cases h
  | .sl a lo hi, e, h, l, M, Q, E, w => by
    unfold ck at h
    split at h
    · rw [Bool.and_eq_true, Bool.and_eq_true] at h
      obtain ⟨⟨h1, h2⟩, h3⟩ := h
      unfold wE at w
      exact ge_sl ((sE F a _ h1 w).imp fun x M1 w => (sO F lo _ h2 w).imp fun i M2 w => (sO F hi _ h3 w).imp fun j M3 w => w X l rfl F.calm)
    · cases h
  | .rev a, e, h, l, M, Q, E, w => by
    unfold ck at h
    split at h
    · unfold wE at w
      rcases w with w | w
      · exact ge_rev (sE F a _ h w)
      · exact ge_revT (sE F a _ h w)
    · cases h
  | .att a f, e, h, l, M, Q, E, w => by
    unfold ck at h
    split at h
    · rw [Bool.and_eq_true, Bool.and_eq_true, decide_eq_true_eq] at h
      obtain ⟨⟨rfl, h1⟩, h2⟩ := h
      unfold wE at w
      exact ge_att ((sE F a _ h2 w).imp fun x M1 w => w X l rfl F.calm) (base_of h1)
    · cases h
  | .cu x i es, e, h, l, M, Q, E, w => by
    unfold ck at h
    split at h
    · rename_i es' _
      rw [Bool.and_eq_true, Bool.and_eq_true, Bool.and_eq_true, decide_eq_true_eq, decide_eq_true_eq] at h
      obtain ⟨⟨⟨rfl, h1⟩, h2⟩, h3⟩ := h
      obtain ⟨g1, g2⟩ := F.gl h2
      obtain ⟨u1, u2⟩ := F.us i x h1
      unfold wE at w
      have w2 := fun q => (sA F es es' q w).imp fun ds M1 w => w X l rfl F.calm
      cases es' with
      | nil =>
        have e := ckL_nil h3
        subst e
        unfold wA at w
        exact ge_cu0 (w X l rfl F.calm) g1 u1 u2 g2
      | cons e r => exact ge_cu (w2 h3) g1 u1 u2 g2 (star_of (ckL_head h3).1) ((ckL_head h3).2 _ _)
    · cases h
  | .cb x id es, e, h, l, M, Q, E, w => by
    unfold ck at h
    split at h
    · rename_i es' _
      simp only [Bool.and_eq_true, decide_eq_true_eq] at h
      obtain ⟨⟨⟨⟨⟨⟨rfl, h1⟩, h2⟩, h4⟩, h6⟩, h5⟩, h3⟩ := h
      obtain ⟨g1, g2⟩ := F.gl h5
      unfold wE at w
      have w2 := fun q => (sA F es es' q w).imp fun ds M1 w => w X l rfl F.calm
      cases es' with
      | nil => simp at h6
      | cons e r => exact ge_cb (w2 h3) g1 (F.bs _ h1) h2 h4 g2 (star_of (ckL_head h3).1) ((ckL_head h3).2 _ _)
    · cases h
  | .ct x id es, e, h, l, M, Q, E, w => by
    unfold ck at h
    split at h
    · rename_i es' _
      simp only [Bool.and_eq_true, decide_eq_true_eq] at h
      obtain ⟨⟨⟨⟨⟨rfl, h1⟩, h2⟩, h4⟩, h5⟩, h3⟩ := h
      obtain ⟨g1, g2⟩ := F.gl h5
      unfold wE at w
      have w2 := fun q => (sA F es es' q w).imp fun ds M1 w => w X l rfl F.calm
      cases es' with
      | nil =>
        have e := ckL_nil h3
        subst e
        unfold wA at w
        exact ge_ct0 (w X l rfl F.calm) g1 (F.bs _ h1) h2 h4 g2
      | cons e r => exact ge_ct (w2 h3) g1 (F.bs _ h1) h2 h4 g2 (star_of (ckL_head h3).1) ((ckL_head h3).2 _ _)
    · cases h
  | .mu a m es, e, h, l, M, Q, E, w => by
    unfold ck at h
    split at h
    · rename_i es' _
      simp only [Bool.and_eq_true, decide_eq_true_eq] at h
      obtain ⟨⟨⟨⟨⟨rfl, h1⟩, h2⟩, h4⟩, h5⟩, h3⟩ := h
      unfold wE at w
      have w2 := fun q => (sE F a _ h5 w).imp fun x M1 ⟨f, k, w⟩ => (⟨f, k, (sA F es es' q w).imp fun ds M2 w => w X l rfl F.calm⟩ : ∃ f, MtOk X.K x M1 m f ∧ GL X T es' l M1 (fun ds M2 => CV X T X.A (.ref f) (x :: ds) l M2 Q E) E)
      cases es' with
      | nil =>
        have e := ckL_nil h3
        subst e
        exact ge_mu0 ((sE F a _ h5 w).imp fun x M1 ⟨f, k, w⟩ => ⟨f, k, by unfold wA at w; exact w X l rfl F.calm⟩) (base_of h1) h2
      | cons e r => exact ge_mu (w2 h3) (base_of h1) (star_of (ckL_head h3).1) ((ckL_head h3).2 _ _) (all_plain h3) h4 h2
    · cases h
  | .mb a m es, e, h, l, M, Q, E, w => by
    unfold ck at h
    split at h
    · rename_i es' _
      simp only [Bool.and_eq_true, decide_eq_true_eq] at h
      obtain ⟨⟨⟨⟨⟨rfl, h1⟩, h2⟩, h4⟩, h5⟩, h3⟩ := h
      unfold wE at w
      have w2 := fun q => (sE F a _ h5 w).imp fun x M1 ⟨t, id, k, k2, w⟩ => (⟨t, id, k, k2, (sA F es es' q w).imp fun ds M2 w => w X l rfl F.calm⟩ : ∃ t id, MbOk t m id ∧ KdM M1 x t ∧ GL X T es' l M1 (fun ds M2 => BM X T id x ds l M2 Q E) E)
      cases es' with
      | nil =>
        have e := ckL_nil h3
        subst e
        exact ge_mb0 ((sE F a _ h5 w).imp fun x M1 ⟨t, id, k, k2, w⟩ => ⟨t, id, k, k2, by unfold wA at w; exact w X l rfl F.calm⟩) (base_of h1) h2
      | cons e r => exact ge_mb (w2 h3) (base_of h1) (star_of (ckL_head h3).1) ((ckL_head h3).2 _ _) (all_plain h3) h4 h2
    · cases h
  | .isT a ts, e, h, l, M, Q, E, w => by
    unfold ck at h
    split at h
    · rename_i a' ts' _ _ _
      simp only [Bool.and_eq_true, decide_eq_true_eq] at h
      obtain ⟨⟨⟨⟨rfl, h1⟩, h2⟩, h3⟩, h4⟩ := h
      unfold wE at w
      exact ge_isT ((sE F a _ h3 w).imp fun x M1 w => sA F ts _ h4 w) (F.bs _ h1) (F.gl h2).1 (star_of (ck_plain h3))
    · cases h
  | .cuk x i es ks vs, e, h, l, M, Q, E, w => by
    unfold ck at h
    split at h
    · rename_i es' kw' pos
      simp only [Bool.and_eq_true, decide_eq_true_eq] at h
      obtain ⟨⟨⟨⟨rfl, h1⟩, h2⟩, h3⟩, h4⟩ := h
      obtain ⟨g1, g2⟩ := F.gl h2
      obtain ⟨u1, u2⟩ := F.us i x h1
      obtain ⟨k1, k2, k3⟩ := ckK_facts (env := X.env) (pos := pos) h4
      unfold wE at w
      have w2 := fun q => (sA F es es' q w).imp fun ds M1 w => (sK F ks vs _ h4 w).imp fun zs M2 w => w X l rfl F.calm
      cases es' with
      | nil =>
        have e := ckL_nil h3
        subst e
        unfold wA at w
        exact ge_cuk0 ((sK F ks vs _ h4 w).imp fun zs M2 w => w X l rfl F.calm) g1 u1 u2 g2 k1 k2 (or_ff rfl k3)
      | cons e r => exact ge_cuk (w2 h3) g1 u1 u2 g2 k1 k2 (star_of (ckL_head h3).1) (or_ff (any_cons_plain (ckL_head h3).1 ((ckL_head h3).2 _ _)) k3)
    · cases h
  | .muk a m es ks vs, e, h, l, M, Q, E, w => by
    unfold ck at h
    split at h
    · rename_i es' kw' pos
      simp only [Bool.and_eq_true, decide_eq_true_eq] at h
      obtain ⟨⟨⟨⟨⟨⟨rfl, h1⟩, h2⟩, h4⟩, h5⟩, h3⟩, h6⟩ := h
      obtain ⟨k1, k2, k3⟩ := ckK_facts (env := X.env) (pos := pos) h6
      unfold wE at w
      have w2 := fun q => (sE F a _ h5 w).imp fun x M1 ⟨f, k, w⟩ => (⟨f, k, (sA F es es' q w).imp fun ds M2 w => (sK F ks vs _ h6 w).imp fun zs M3 w => w X l rfl F.calm⟩ : ∃ f, MtOk X.K x M1 m f ∧ GL X T es' l M1 (fun ds M2 => GKw X T kw' l M2 (fun zs M3 => CVK X T (.ref f) (x :: ds) ks zs l M3 Q E) E) E)
      cases es' with
      | nil =>
        have e := ckL_nil h3
        subst e
        exact ge_muk0 ((sE F a _ h5 w).imp fun x M1 ⟨f, k, w⟩ => ⟨f, k, by unfold wA at w; exact (sK F ks vs _ h6 w).imp fun zs M3 w => w X l rfl F.calm⟩) (base_of h1) k1 k2 (or_ff rfl k3) (by simpa using h4) h2
      | cons e r => exact ge_muk (w2 h3) (base_of h1) k1 k2 (star_of (ckL_head h3).1) (or_ff (any_cons_plain (ckL_head h3).1 ((ckL_head h3).2 _ _)) k3) (all_plain h3) h4 h2
    · cases h
  | .sm x m es, e, h, l, M, Q, E, w => by
    unfold ck at h
    split at h
    · rename_i es' _
      simp only [Bool.and_eq_true, decide_eq_true_eq] at h
      obtain ⟨⟨⟨⟨⟨rfl, rfl⟩, h2⟩, h5⟩, h4⟩, h3⟩ := h
      obtain ⟨g1, g2⟩ := F.gl h2
      unfold wE at w
      obtain ⟨g, k, w⟩ := w
      have w2 := fun q => (sA F es es' q w).imp fun ds M1 w => w X l rfl F.calm
      cases es' with
      | nil =>
        have e := ckL_nil h3
        subst e
        unfold wA at w
        exact ge_sm0 k (w X l rfl F.calm) g1 g2 rfl h5
      | cons e r => exact ge_sm k (w2 h3) g1 g2 rfl (star_of (ckL_head h3).1) ((ckL_head h3).2 _ _) (all_plain h3) h4 h5
    · cases h
  | .olst es, e, h, l, M, Q, E, w => by
    unfold ck at h
    split at h
    · unfold wE at w
      exact ge_olst (sA F es _ h w)
    · cases h
  | .oli x, e, h, l, M, Q, E, w => by
    unfold ck at h
    split at h
    · simp only [Bool.and_eq_true, decide_eq_true_eq] at h
      obtain ⟨⟨⟨rfl, h1⟩, h2⟩, h3⟩ := h
      unfold wE at w
      exact ge_oli (sE F x _ h3 w) (F.bs _ h1) (F.gl h2).1 (star_of (ck_plain h3))
    · cases h
  | .odic, e, h, l, M, Q, E, w => by
    unfold ck at h
    split at h
    · unfold wE at w
      exact ge_odic w
    · cases h
  | .lc elt tg it ifs own, e, h, l, M, Q, E, w => by
    unfold ck at h
    split at h
    · rename_i elt' tg' iter' ifs' scope pos
      simp only [Bool.and_eq_true, decide_eq_true_eq, List.all_eq_true] at h
      obtain ⟨⟨⟨⟨⟨h1, h2⟩, h3⟩, h4⟩, h5⟩, h6⟩ := h
      unfold wE at w
      have ok : BlkOk X.N X.env.scope scope own := by rw [F.N, F.sc]; exact blkOk_by h3
      have iterp : plainE iter' = true := ckI_plain h1
      have mk : ∀ (s : Shared) (H : Hp) (C : Addr) (cl : List (Str × Addr)) (fp : List Addr), Fit T { c with sc := relS scope c.sc, top := false } (X.blk s H scope (compEnvC scope cl C X.env) fp) Γ := fun s H C cl fp => F.blk s H scope cl C fp
      obtain ⟨tt, ht, core⟩ := lc_core (hts := fun s H C cl fp {_ _ _ _} w => sTs (mk s H C cl fp) ifs ifs' h6 w) (hel := fun s H C cl fp {_ _ _ _} w => sE (mk s H C cl fp) elt elt' h5 w) h4 (sI F it tg' iter' h1 w)
      exact ge_lcI F.calm F.nd ok (fun s H C cl fp => pg_all (mk s H C cl fp) h2) ht (folded_of iterp) core
    · cases h
  | .lam b, e, h, l, M, Q, E, w => by
    unfold ck at h
    split at h
    · rename_i ps b' scope pos
      simp only [Bool.and_eq_true] at h
      obtain ⟨⟨⟨h1, h2⟩, h3⟩, h4⟩ := h
      unfold wE at w
      obtain ⟨e1, cd, P, m⟩ := F.lm h1 w.1
      refine ge_lam (me := Γ.me) m h2 ?_ (by rw [e1]; exact h4) w.2
      rw [e1]
      exact LamX.lamS_by h3
    · cases h
  | .pr s es, e, h, l, M, Q, E, w => by
    unfold ck at h
    rw [Bool.and_eq_true] at h
    obtain ⟨_, h⟩ := h
    split at h
    · rename_i es' he
      unfold wE at w
      refine sPr F he (sA F es es' h w) fun e0 => ?_
      subst e0
      have e1 := ckL_nil h
      subst e1
      unfold wA at w
      exact w
    · cases h
termination_by x => (sizeOf x, 0)
theorem sA {c : Ck} {X : Cx} (F : Fit T c X Γ) : (xs : List IE) → (es : List Expr) → ckL c xs es = true → ∀ {l : Sl} {M : Mem} {Q : List D → Mem → Prop} {E : PX}, wA (cof X) T Γ xs l M Q E → GL X T es l M Q E
  | [], es, h, l, M, Q, E, w => by
    unfold ckL at h
    split at h
    · unfold wA at w
      exact gl_nil w
    · cases h
  | x :: xs, es, h, l, M, Q, E, w => by
    unfold ckL at h
    split at h
    · rw [Bool.and_eq_true] at h
      unfold wA at w
      exact gl_cons ((sE F x _ h.1 w).imp fun d M1 w => sA F xs _ h.2 w) (star_of (ck_plain h.1))
    · cases h
termination_by xs => (sizeOf xs, 0)
theorem sK {c : Ck} {X : Cx} (F : Fit T c X Γ) : (ks : List Str) → (xs : List IE) → (es : List Keyword) → ckK c ks xs es = true → ∀ {l : Sl} {M : Mem} {Q : List D → Mem → Prop} {E : PX}, wA (cof X) T Γ xs l M Q E → GKw X T es l M Q E
  | ks, [], es, h, l, M, Q, E, w => by
    unfold ckK at h
    split at h
    · unfold wA at w
      exact gk_nil w
    · cases h
  | ks, x :: xs, es, h, l, M, Q, E, w => by
    unfold ckK at h
    split at h
    · rename_i k ks k' e p kw
      simp only [Bool.and_eq_true, decide_eq_true_eq] at h
      unfold wA at w
      exact gk_cons ((sE F x _ h.1.2 w).imp fun d M1 w => sK F ks xs _ h.2 w)
    · cases h
termination_by _ xs => (sizeOf xs, 0)
theorem sO {c : Ck} {X : Cx} (F : Fit T c X Γ) : (xs : List IE) → (e : Option Expr) → ckO c xs e = true → ∀ {l : Sl} {M : Mem} {Q : Option Int → Mem → Prop} {E : PX}, wO (cof X) T Γ xs l M Q E → GO X T e l M Q E
  | [], e, h, l, M, Q, E, w => by
    unfold ckO at h
    split at h
    · unfold wO at w
      exact go_none w
    · cases h
  | [x], e, h, l, M, Q, E, w => by
    unfold ckO at h
    split at h
    · unfold wO at w
      exact go_some (sE F x _ h w)
    · cases h
  | _ :: _ :: _, e, h, l, M, Q, E, w => by
    unfold ckO at h
    cases h
termination_by xs => (sizeOf xs, 0)
theorem sAnd {c : Ck} {X : Cx} (F : Fit T c X Γ) : (xs : List IE) → (es : List Expr) → (pos : Pos) → ckL c xs es = true → ∀ {l : Sl} {M : Mem} {Q : PD} {E : PX}, wAnd (cof X) T Γ xs l M Q E → GE X T (.BoolOp .And es pos) l M Q E
  | [], es, pos, h, l, M, Q, E, w => by
    unfold wAnd at w
    exact w.elim
  | [x], es, pos, h, l, M, Q, E, w => by
    unfold ckL at h
    split at h
    · rw [Bool.and_eq_true] at h
      have e := h.2
      unfold ckL at e
      split at e
      · unfold wAnd at w
        exact ge_one (sE F x _ h.1 w)
      · cases e
    · cases h
  | x :: y :: xs, es, pos, h, l, M, Q, E, w => by
    unfold ckL at h
    split at h
    · rename_i e0 es0
      rw [Bool.and_eq_true] at h
      cases es0 with
      | nil => exact absurd h.2 (by unfold ckL; simp)
      | cons e1 es1 =>
        unfold wAnd at w
        exact ge_and ((sE F x _ h.1 w).imp fun d M1 ⟨t, e, w1, w0⟩ => ⟨t, e, fun q => sAnd F (y :: xs) (e1 :: es1) pos h.2 (w1 q), w0⟩)
    · cases h
termination_by xs => (sizeOf xs, 0)
theorem sOr {c : Ck} {X : Cx} (F : Fit T c X Γ) : (xs : List IE) → (es : List Expr) → (pos : Pos) → ckL c xs es = true → ∀ {l : Sl} {M : Mem} {Q : PD} {E : PX}, wOr (cof X) T Γ xs l M Q E → GE X T (.BoolOp .Or es pos) l M Q E
  | [], es, pos, h, l, M, Q, E, w => by
    unfold wOr at w
    exact w.elim
  | [x], es, pos, h, l, M, Q, E, w => by
    unfold ckL at h
    split at h
    · rw [Bool.and_eq_true] at h
      have e := h.2
      unfold ckL at e
      split at e
      · unfold wOr at w
        exact ge_one (sE F x _ h.1 w)
      · cases e
    · cases h
  | x :: y :: xs, es, pos, h, l, M, Q, E, w => by
    unfold ckL at h
    split at h
    · rename_i e0 es0
      rw [Bool.and_eq_true] at h
      cases es0 with
      | nil => exact absurd h.2 (by unfold ckL; simp)
      | cons e1 es1 =>
        unfold wOr at w
        exact ge_or ((sE F x _ h.1 w).imp fun d M1 ⟨t, e, w1, w0⟩ => ⟨t, e, fun q => sOr F (y :: xs) (e1 :: es1) pos h.2 (w1 q), w0⟩)
    · cases h
termination_by xs => (sizeOf xs, 0)
theorem sTand {c : Ck} {X : Cx} (F : Fit T c X Γ) : (xs : List IE) → (es : List Expr) → (pos : Pos) → ckL c xs es = true → ∀ {l : Sl} {M : Mem} {Q : Bool → Mem → Prop} {E : PX}, wTand (cof X) T Γ xs l M Q E → GW X T (.BoolOp .And es pos) l M Q E
  | [], es, pos, h, l, M, Q, E, w => by
    unfold wTand at w
    exact w.elim
  | [x], es, pos, h, l, M, Q, E, w => by
    unfold ckL at h
    split at h
    · rw [Bool.and_eq_true] at h
      have e := h.2
      unfold ckL at e
      split at e
      · unfold wTand at w
        exact gw_and1 (sT F x _ h.1 w)
      · cases e
    · cases h
  | x :: y :: xs, es, pos, h, l, M, Q, E, w => by
    unfold ckL at h
    split at h
    · rename_i e0 es0
      rw [Bool.and_eq_true] at h
      cases es0 with
      | nil => exact absurd h.2 (by unfold ckL; simp)
      | cons e1 es1 =>
        unfold wTand at w
        exact gw_and ((sT F x _ h.1 w).imp fun t M1 ⟨w1, w0⟩ => ⟨fun q => sTand F (y :: xs) (e1 :: es1) pos h.2 (w1 q), w0⟩)
    · cases h
termination_by xs => (sizeOf xs, 0)
theorem sTor {c : Ck} {X : Cx} (F : Fit T c X Γ) : (xs : List IE) → (es : List Expr) → (pos : Pos) → ckL c xs es = true → ∀ {l : Sl} {M : Mem} {Q : Bool → Mem → Prop} {E : PX}, wTor (cof X) T Γ xs l M Q E → GW X T (.BoolOp .Or es pos) l M Q E
  | [], es, pos, h, l, M, Q, E, w => by
    unfold wTor at w
    exact w.elim
  | [x], es, pos, h, l, M, Q, E, w => by
    unfold ckL at h
    split at h
    · rw [Bool.and_eq_true] at h
      have e := h.2
      unfold ckL at e
      split at e
      · unfold wTor at w
        exact gw_or1 (sT F x _ h.1 w)
      · cases e
    · cases h
  | x :: y :: xs, es, pos, h, l, M, Q, E, w => by
    unfold ckL at h
    split at h
    · rename_i e0 es0
      rw [Bool.and_eq_true] at h
      cases es0 with
      | nil => exact absurd h.2 (by unfold ckL; simp)
      | cons e1 es1 =>
        unfold wTor at w
        exact gw_or ((sT F x _ h.1 w).imp fun t M1 ⟨w1, w0⟩ => ⟨fun q => sTor F (y :: xs) (e1 :: es1) pos h.2 (w1 q), w0⟩)
    · cases h
termination_by xs => (sizeOf xs, 0)
theorem sT {c : Ck} {X : Cx} (F : Fit T c X Γ) : (x : IE) → (e : Expr) → ck c x e = true → ∀ {l : Sl} {M : Mem} {Q : Bool → Mem → Prop} {E : PX}, wT (cof X) T Γ x l M Q E → GT X T e l M Q E
  | .not a, e, h, l, M, Q, E, w => by
    unfold ck at h
    split at h
    · unfold wT at w
      exact gt_not (sT F a _ h w)
    · cases h
  | .and es, e, h, l, M, Q, E, w => by
    unfold ck at h
    split at h
    · unfold wT at w
      exact (sTand F es _ _ h w).gt
    · cases h
  | .or es, e, h, l, M, Q, E, w => by
    unfold ck at h
    split at h
    · unfold wT at w
      exact (sTor F es _ _ h w).gt
    · cases h
  | .cmp op a b, e, h, l, M, Q, E, w => by
    unfold ck at h
    split at h
    · rw [Bool.and_eq_true, Bool.and_eq_true, decide_eq_true_eq] at h
      obtain ⟨⟨rfl, h1⟩, h2⟩ := h
      unfold wT at w
      exact (gt_cmp ((sE F a _ h1 w).imp fun x M1 w => (sE F b _ h2 w).imp fun y M2 w => w X l rfl F.calm) (mark_of (ck_plain h2))).gt
    · cases h
  | .cm2 o o' a b d, e, h, l, M, Q, E, w => by
    unfold ck at h
    split at h
    · simp only [Bool.and_eq_true, decide_eq_true_eq] at h
      obtain ⟨⟨⟨⟨rfl, rfl⟩, h1⟩, h2⟩, h3⟩ := h
      unfold wT at w
      exact gt_cm2 ((sE F a _ h1 w).imp fun x M1 w => (sE F b _ h2 w).imp fun y M2 w => (w X l rfl F.calm).imp fun z M3 ⟨t, e, w0, w1⟩ => ⟨t, e, w0, fun q => (sE F d _ h3 (w1 q)).imp fun z M4 w => w X l rfl F.calm⟩) (marks_of (ck_plain h3))
    · cases h
  | .ite _ _ _, e, h, l, M, Q, E, w => by
    unfold wT at w
    exact w.elim
  | .v i, e, h, l, M, Q, E, w => by
    unfold wT at w
    exact gt_val (sE F (.v i) e h w) (whole_v h)
  | .int i, e, h, l, M, Q, E, w => by
    unfold wT at w
    exact gt_val (sE F (.int i) e h w) (whole_v h)
  | .str i, e, h, l, M, Q, E, w => by
    unfold wT at w
    exact gt_val (sE F (.str i) e h w) (whole_v h)
  | .bl i, e, h, l, M, Q, E, w => by
    unfold wT at w
    exact gt_val (sE F (.bl i) e h w) (whole_v h)
  | .non, e, h, l, M, Q, E, w => by
    unfold wT at w
    exact gt_val (sE F .non e h w) (whole_v h)
  | .gl x, e, h, l, M, Q, E, w => by
    unfold wT at w
    exact gt_val (sE F (.gl x) e h w) (whole_v h)
  | .bin op a b, e, h, l, M, Q, E, w => by
    unfold wT at w
    exact gt_val (sE F (.bin op a b) e h w) (whole_v h)
  | .un op a, e, h, l, M, Q, E, w => by
    unfold wT at w
    exact gt_val (sE F (.un op a) e h w) (whole_v h)
  | .lst es, e, h, l, M, Q, E, w => by
    unfold wT at w
    exact gt_val (sE F (.lst es) e h w) (whole_v h)
  | .tup es, e, h, l, M, Q, E, w => by
    unfold wT at w
    exact gt_val (sE F (.tup es) e h w) (whole_v h)
  | .dic0, e, h, l, M, Q, E, w => by
    unfold wT at w
    exact gt_val (sE F .dic0 e h w) (whole_v h)
  | .ix a b, e, h, l, M, Q, E, w => by
    unfold wT at w
    exact gt_val (sE F (.ix a b) e h w) (whole_v h)
  | .sl a b d, e, h, l, M, Q, E, w => by
    unfold wT at w
    exact gt_val (sE F (.sl a b d) e h w) (whole_v h)
  | .rev a, e, h, l, M, Q, E, w => by
    unfold wT at w
    exact gt_val (sE F (.rev a) e h w) (whole_v h)
  | .att a f, e, h, l, M, Q, E, w => by
    unfold wT at w
    exact gt_val (sE F (.att a f) e h w) (whole_v h)
  | .cu x i es, e, h, l, M, Q, E, w => by
    unfold wT at w
    exact gt_val (sE F (.cu x i es) e h w) (whole_v h)
  | .cb x i es, e, h, l, M, Q, E, w => by
    unfold wT at w
    exact gt_val (sE F (.cb x i es) e h w) (whole_v h)
  | .ct x i es, e, h, l, M, Q, E, w => by
    unfold wT at w
    exact gt_val (sE F (.ct x i es) e h w) (whole_v h)
  | .mu a m es, e, h, l, M, Q, E, w => by
    unfold wT at w
    exact gt_val (sE F (.mu a m es) e h w) (whole_v h)
  | .mb a m es, e, h, l, M, Q, E, w => by
    unfold wT at w
    exact gt_val (sE F (.mb a m es) e h w) (whole_v h)
  | .isT a es, e, h, l, M, Q, E, w => by
    unfold wT at w
    exact gt_val (sE F (.isT a es) e h w) (whole_v h)
  | .cuk x i es ks vs, e, h, l, M, Q, E, w => by
    unfold wT at w
    exact gt_val (sE F (.cuk x i es ks vs) e h w) (whole_v h)
  | .muk a m es ks vs, e, h, l, M, Q, E, w => by
    unfold wT at w
    exact gt_val (sE F (.muk a m es ks vs) e h w) (whole_v h)
  | .sm x m es, e, h, l, M, Q, E, w => by
    unfold wT at w
    exact gt_val (sE F (.sm x m es) e h w) (whole_v h)
  | .olst es, e, h, l, M, Q, E, w => by
    unfold wT at w
    exact gt_val (sE F (.olst es) e h w) (whole_v h)
  | .oli es, e, h, l, M, Q, E, w => by
    unfold wT at w
    exact gt_val (sE F (.oli es) e h w) (whole_v h)
  | .odic, e, h, l, M, Q, E, w => by
    unfold wT at w
    exact gt_val (sE F .odic e h w) (whole_v h)
  | .lc a b d f g, e, h, l, M, Q, E, w => by
    unfold wT at w
    exact gt_val (sE F (.lc a b d f g) e h w) (whole_v h)
  | .lam b, e, h, l, M, Q, E, w => by
    unfold wT at w
    exact gt_val (sE F (.lam b) e h w) (whole_v h)
  | .pr s es, e, h, l, M, Q, E, w => by
    unfold wT at w
    exact gt_val (sE F (.pr s es) e h w) (whole_v h)
termination_by x => (sizeOf x, 1)
theorem sI {c : Ck} {X : Cx} (F : Fit T c X Γ) : (it : IT) → (tg e : Expr) → ckI c it tg e = true → ∀ {l : Sl} {M : Mem} {Q : List D → Mem → Prop} {E : PX}, wI (cof X) T Γ it l M Q E → GI X T tg e l M Q E
  | .li x, tg, e, h, l, M, Q, E, w => by
    unfold ckI at h
    unfold wI at w
    rcases w with w | w | w
    · exact gi_lst (sE F x e h w)
    · exact gi_tup (sE F x e h w)
    · exact gi_str (sE F x e h w)
  | .ra x, tg, e, h, l, M, Q, E, w => by
    unfold ckI at h
    split at h
    · simp only [Bool.and_eq_true, decide_eq_true_eq] at h
      obtain ⟨⟨⟨rfl, h1⟩, h2⟩, h3⟩ := h
      unfold wI at w
      exact gi_range (sE F x _ h3 w) (F.bs _ h1) (F.gl h2).1 (star_of (ck_plain h3))
    · cases h
  | .en x, tg, e, h, l, M, Q, E, w => by
    unfold ckI at h
    split at h
    · simp only [Bool.and_eq_true, decide_eq_true_eq] at h
      obtain ⟨⟨⟨⟨h0, rfl⟩, h1⟩, h2⟩, h3⟩ := h
      unfold wI at w
      split at h0
      · rcases w with w | w
        · exact gi_enum (sE F x _ h3 w) (F.bs _ h1) (F.gl h2).1 (star_of (ck_plain h3))
        · exact gi_enumT (sE F x _ h3 w) (F.bs _ h1) (F.gl h2).1 (star_of (ck_plain h3))
      · cases h0
    · cases h
  | .zi a b, tg, e, h, l, M, Q, E, w => by
    unfold ckI at h
    split at h
    · simp only [Bool.and_eq_true, decide_eq_true_eq] at h
      obtain ⟨⟨⟨⟨⟨h0, rfl⟩, h1⟩, h2⟩, h3⟩, h4⟩ := h
      unfold wI at w
      split at h0
      · refine gi_zip (gl_cons ((sE F a _ h3 w).imp fun d M1 w => gl_cons ((sE F b _ h4 w).imp fun d2 M2 ⟨ds, fs, e1, e2, w⟩ => gl_nil ⟨ds, fs, by rw [e1, e2], w⟩) (star_of (ck_plain h4))) (star_of (ck_plain h3))) (F.bs _ h1) (F.gl h2).1 (star_of (ck_plain h3)) ?_
        rw [star_of (ck_plain h4)]; rfl
      · cases h0
    · cases h
termination_by x => (sizeOf x, 0)
theorem sTs {c : Ck} {X : Cx} (F : Fit T c X Γ) : (xs : List IE) → (es : List Expr) → ckL c xs es = true → ∀ {l : Sl} {M : Mem} {Q : Bool → Mem → Prop} {E : PX}, wTs (cof X) T Γ xs l M Q E → GTs X T es l M Q E
  | [], es, h, l, M, Q, E, w => by
    unfold ckL at h
    split at h
    · unfold wTs at w
      exact w
    · cases h
  | [x], es, h, l, M, Q, E, w => by
    unfold ckL at h
    split at h
    · rw [Bool.and_eq_true] at h
      have e := h.2
      unfold ckL at e
      split at e
      · unfold wTs at w
        exact sT F x _ h.1 w
      · cases e
    · cases h
  | x :: y :: xs, es, h, l, M, Q, E, w => by
    unfold wTs at w
    exact w.elim
termination_by xs => (sizeOf xs, 0)
end
end
end Wx
set_option Elab.async false
set_option linter.all false
set_option maxRecDepth 100000
set_option maxHeartbeats 4000000
/-! Wx, part 7b: the language of except clauses. -/
namespace Wx
open PySem L2 Fx PySem.Spec PyProof.Rows
inductive IH where
  | v (i : Nat) | str (z : Str) | int (n : Int) | bl (b : Bool) | non
  | xf (i : Nat) (f : Str) | is1 (i : Nat) (c : Str) | isT (i : Nat) (cs : List Str)
  | and (es : List IH) | not (e : IH) | lst (es : List IH) | tup (es : List IH)
/-- the class named c -/
def NmC (Y : Co) (c : Str) (d : D) (cv : Value) : Prop := (∃ C, Y.mg c = some (.ref C) ∧ d = .ref C ∧ cv = .ref C) ∨ (∃ n, Y.mg c = none ∧ bootBuiltins c = some (.type n) ∧ c ≠ "__name__" ∧ d = .ty n ∧ cv = .type n)
section
variable (Y : Co) (x C : Addr) (fs : List (Str × D)) (l : Sl)
mutual
/-- what a clause's expression asks: x the error, C its class, fs its attributes -/
def wH : IH → (D → Prop) → Prop
  | .v i, R => ∃ d, l[i]? = some (some d) ∧ R d
  | .str z, R => R (.str z)
  | .int n, R => R (.int n)
  | .bl b, R => R (.bl b)
  | .non, R => R .non
  | .xf i f, R => l[i]? = some (some (.ref x)) ∧ XfC Y.K C ∧ PySem.W.findIn Y.K (.ref C) f = some none ∧ ∃ d, fs.lookup f = some d ∧ R d
  | .is1 i c, R => l[i]? = some (some (.ref x)) ∧ ExcC Y.K C ∧ ∃ d cv b, NmC Y c d cv ∧ PySem.W.kitOne Y.K (.ref C) cv = some b ∧ R (.bl b)
  | .isT i cs, R => l[i]? = some (some (.ref x)) ∧ ExcC Y.K C ∧ ∃ (qs : List (D × Value)) (b : Bool), Paired (fun c q => NmC Y c q.1 q.2) cs qs ∧ cs.length ≤ sizeLine ∧ PySem.W.kitAny Y.K (.ref C) (qs.map (·.2)) = some b ∧ R (.bl b)
  | .and es, R => wHa es R
  | .not e, R => wH e fun d => ∃ t, d = .bl t ∧ R (.bl (!t))
  | .lst es, R => wHl es fun ds => ds.length ≤ sizeLine ∧ R (.lst ds)
  | .tup es, R => wHl es fun ds => ds.length ≤ sizeLine ∧ R (.tup ds)
def wHa : List IH → (D → Prop) → Prop
  | [], _ => False
  | [e], R => wH e R
  | e :: es, R => wH e fun d => ∃ t, d = .bl t ∧ (t = true → wHa es R) ∧ (t = false → R (.bl false))
def wHl : List IH → (List D → Prop) → Prop
  | [], R => R []
  | e :: es, R => wH e fun d => wHl es fun ds => R (d :: ds)
end
end
def nmV (c : Ck) (i : Nat) : Expr → Bool
  | .Name x _ => decide (c.N[i]? = some x) && isVis c.sc x && nmB x
  | _ => false
def nmG (c : Ck) (x : Str) : Expr → Bool
  | .Name y _ => decide (x = y) && glB c.sc x
  | _ => false
def nmGs (c : Ck) : List Str → List Expr → Bool
  | [], [] => true
  | x :: xs, e :: es => nmG c x e && nmGs c xs es
  | _, _ => false
mutual
def ckH (c : Ck) : IH → Expr → Bool
  | .v i, e => nmV c i e
  | .str z, e => match e with
    | .Constant (.str y) _ _ => decide (z = y)
    | _ => false
  | .int n, e => match e with
    | .Constant (.int m) _ _ => decide (n = m)
    | _ => false
  | .bl b, e => match e with
    | .Constant (.bool y) _ _ => decide (b = y)
    | _ => false
  | .non, e => match e with
    | .Constant .none _ _ => true
    | _ => false
  | .xf i f, e => match e with
    | .Attribute a f' _ => decide (f = f') && nmV c i a
    | _ => false
  | .is1 i k, e => match e with
    | .Call (.Name y _) [a, b] [] _ => decide (y = "isinstance") && decide (y ∈ c.bs) && glB c.sc y && nmV c i a && nmG c k b
    | _ => false
  | .isT i ks, e => match e with
    | .Call (.Name y _) [a, .Tuple bs _ _] [] _ => decide (y = "isinstance") && decide (y ∈ c.bs) && glB c.sc y && nmV c i a && nmGs c ks bs
    | _ => false
  | .and es, e => match e with
    | .BoolOp .And es' _ => ckHl c es es'
    | _ => false
  | .not a, e => match e with
    | .UnaryOp .Not a' _ => ckH c a a'
    | _ => false
  | .lst es, e => match e with
    | .List es' _ => ckHl c es es'
    | _ => false
  | .tup es, e => match e with
    | .Tuple es' _ _ => ckHl c es es'
    | _ => false
def ckHl (c : Ck) : List IH → List Expr → Bool
  | [], es => match es with
    | [] => true
    | _ => false
  | x :: xs, es => match es with
    | e :: es => ckH c x e && ckHl c xs es
    | _ => false
end
/-- no comprehension that stores by itself -/
def noComp : Expr → Bool
  | .ListComp _ _ _ _ => false
  | .SetComp _ _ _ _ => false
  | .DictComp _ _ _ _ _ => false
  | _ => true
inductive IG where
  | set (i : Nat) (e : IH) | ret (e : IH)
def wG (Y : Co) (x C : Addr) (fs : List (Str × D)) : List IG → Sl → (Sl → Prop) → (D → Prop) → Prop
  | [], l, nx, _ => nx l
  | .set i e :: r, l, nx, rt => wH Y x C fs l e fun d => wG Y x C fs r (l.set i (some d)) nx rt
  | .ret e :: _, l, _, rt => wH Y x C fs l e rt
def ckG (c : Ck) : List IG → List Stmt → Bool
  | [], ss => match ss with
    | [] => true
    | _ => false
  | .set i e :: r, ss => match ss with
    | .Assign [.Name x p] e' _ :: ss => tg1 c i (.Name x p) && ckH c e e' && noComp e' && ckG c r ss
    | _ => false
  | .ret e :: _, ss => match ss with
    | .Return (some e') _ :: _ => ckH c e e'
    | _ => false
/-- a clause: its class's name, its own name's slot, its statements -/
structure IC where
  cls : Str
  slot : Option Nat
  body : List IG
def slotB (c : Ck) (o : Option Nat) (n : Option Str) : Bool := match o, n with
  | none, none => true
  | some i, some n => decide (c.N[i]? = some n) && decide (c.sc.names.lookup n = some .local)
  | _, _ => false
def ckC (c : Ck) : List IC → List ExceptHandler → Bool
  | [], hs => match hs with
    | [] => true
    | _ => false
  | ic :: r, hs => match hs with
    | .ExceptHandler (some (.Name y _)) n (b :: bs) _ :: hs => decide (ic.cls = y) && glB c.sc y && slotB c ic.slot n && ckG c ic.body (b :: bs) && ckC c r hs
    | _ => false
def bindS (o : Option Nat) (x : Addr) (l : Sl) : Sl := match o with
  | some i => l.set i (some (.ref x))
  | none => l
def goneS (o : Option Nat) (l : Sl) : Sl := match o with
  | some i => l.set i none
  | none => l
end Wx
set_option Elab.async false
set_option linter.all false
set_option maxRecDepth 100000
set_option maxHeartbeats 8000000
/-! Wx, part 8: statements. -/
namespace Wx
open PySem L2 Fx PySem.Spec PyProof.Rows

/-- what is wanted behind a statement -/
structure Kt where
  nx : Sl → Mem → Prop
  rt : PD
  bk : Sl → Mem → Prop
  ct : Sl → Mem → Prop
  ex : Sl → PX
inductive IS where
  | ret (e : IE) | ret0
  | set (i : Nat) (e : IE)
  | unp (is : List Nat) (e : IE)
  | par (is : List Nat) (es : List IE)
  | drop (e : IE)
  | ife (c : IE) (a b : List IS)
  | forI (tg : List Nat) (it : IT) (body : List IS)
  | whl (c : IE) (body : List IS)
  | fld (a : IE) (f : Str) (e : IE)
  | raise (x : Str) (es : List IE)
  | pass | brk | cont
  | tryE (body : List IS) (cs : List IC)
/-- an attribute is put -/
def putD (f : Str) (d : D) : List (Str × D) → List (Str × D)
  | [] => [(f, d)]
  | (g, x) :: r => if g = f then (g, d) :: r else (g, x) :: putD f d r
theorem putD_rp {K : PySem.W.Frag} {B : Hp} {f : Str} {d : D} {v : V} (r : Rp K B d v) : ∀ {fs : List (Str × D)} {gs : List (Str × V)}, RpF K B fs gs → RpF K B (putD f d fs) (putF f v gs)
  | [], gs, h => by
    simp only [RpF] at h
    subst h
    unfold putD putF
    simp only [RpF]
    exact ⟨v, [], rfl, r, rfl⟩
  | (g, x) :: fs, gs, h => by
    simp only [RpF] at h
    obtain ⟨u, t, rfl, h1, h2⟩ := h
    unfold putD putF
    split
    · simp only [RpF]; exact ⟨v, t, rfl, r, h2⟩
    · simp only [RpF]; exact ⟨u, _, rfl, h1, putD_rp r h2⟩
theorem rpf_length {K : PySem.W.Frag} {B : Hp} : ∀ {fs : List (Str × D)} {gs : List (Str × V)}, RpF K B fs gs → fs.length = gs.length
  | [], gs, h => by simp only [RpF] at h; subst h; rfl
  | (g, x) :: fs, gs, h => by
    simp only [RpF] at h
    obtain ⟨u, t, rfl, h1, h2⟩ := h
    simp only [List.length_cons, rpf_length h2]
/-- the runs that make an exception -/
def RMk (X : Cx) (e : Expr) (σ : L2.St) (H : Hp) (Q : XK) : Prop := ∀ pins s, Inv X pins σ H s → wpAny (model X.prog X.w) X.A (eval e X.env) (MkP X pins σ Q) X.xe s
theorem cMk {X : Cx} {e : Expr} : PMk X e (RMk X e) := fun pins s _ _ _ I h => h pins s I
def GM (X : Cx) (T : Tb) (e : Expr) (l : Sl) (M : Mem) (E : PX) : Prop := ∀ σ B H, StR X.K T l M σ B H → ∀ W, Takes X W → KnX X.K T l M σ B H W E → RMk X e σ H (fun cls d H' => W cls d σ H')
/-- the class named x, at C, makes its exceptions with the attributes mk of the arguments -/
def ExOk (Y : Co) (T : Tb) (x : Str) (C : Addr) (n : Nat) (mk : List D → List (Str × D)) : Prop := ∀ (X : Cx), cof X = Y → X.calm = true → ∀ (e : Expr) (es : List Expr) (p pos : Pos) (l : Sl) (M : Mem) (E : PX), Gl X x → (x == ("__debug__" : Str)) = false →
  starEach (e :: es) X.env = (false, eval e X.env) :: starEach es X.env → (backTo pos (starEach es X.env)).any (·.1) = false → GL X T (e :: es) l M (fun ds M1 => ds.length = n ∧ E C (mk ds) M1) E → GM X T (.Call (.Name x p) (e :: es) [] pos) l M E
/-- what the clauses, with their classes, ask of an error -/
def wC (Y : Co) (k : Kt) : List (IC × Value) → Sl → PX
  | [], l, C, fs, M => k.ex l C fs M
  | (ic, cv) :: r, l, C, fs, M => ∃ b, PySem.W.exmOne Y.K (.ref C) cv = some b ∧ (b = true → ∀ x, wG Y x C fs ic.body (bindS ic.slot x l) (fun l' => k.nx (goneS ic.slot l') M) (fun d => k.rt d M)) ∧ (b = false → wC Y k r l C fs M)
section
variable (Y : Co) (T : Tb) (Γ : Gm)
mutual
def wS : IS → Sl → Mem → Kt → Prop
  | .ret e, l, M, k => wE Y T Γ e l M k.rt (k.ex l)
  | .ret0, _, M, k => k.rt .non M
  | .set i e, l, M, k => wE Y T Γ e l M (fun d M1 => k.nx (l.set i (some d)) M1) (k.ex l)
  | .unp is e, l, M, k => wE Y T Γ e l M (fun d M1 => ∃ ps, partsOf is.length d = some ps ∧ k.nx (setAll l is ps) M1) (k.ex l)
  | .par is es, l, M, k => wA Y T Γ es l M (fun ds M1 => ds.length = is.length ∧ k.nx (setAll l is ds) M1) (k.ex l)
  | .drop e, l, M, k => wE Y T Γ e l M (fun _ M1 => k.nx l M1) (k.ex l)
  | .ife c a b, l, M, k => wT Y T Γ c l M (fun t M1 => (t = true → wB a l M1 k) ∧ (t = false → wB b l M1 k)) (k.ex l)
  | .forI tg it body, l, M, k => wI Y T Γ it l M (fun ds M1 => ∃ I : Nat → Sl → Mem → Prop, I 0 l M1 ∧
      (∀ i d l1 M2, ds[i]? = some d → I i l1 M2 → ∃ ps, partsOf tg.length d = some ps ∧ wB body (setAll l1 tg ps) M2 { k with nx := I (i + 1), ct := I (i + 1), bk := k.nx }) ∧
      ∀ l1 M2, I ds.length l1 M2 → k.nx l1 M2) (k.ex l)
  | .whl c body, l, M, k => ∃ I : Nat → Sl → Mem → Prop, (∃ m, I m l M) ∧ ∀ m l1 M1, I m l1 M1 →
      wT Y T Γ c l1 M1 (fun t M2 => (t = true → wB body l1 M2 { k with nx := fun l' M' => ∃ m', m' < m ∧ I m' l' M', ct := fun l' M' => ∃ m', m' < m ∧ I m' l' M', bk := k.nx }) ∧ (t = false → k.nx l1 M2)) (k.ex l1)
  | .fld a f e, l, M, k => wE Y T Γ e l M (fun d M1 => wE Y T Γ a l M1 (fun x M2 => ∃ p C fs, x = .ref p ∧ M2.at p = some (.ins C fs) ∧ Cls Y.K C ∧ NoAttr Y.K C f ∧ fs.length < 1000 ∧ k.nx l (M2.put p (.ins C (putD f d fs)))) (k.ex l)) (k.ex l)
  | .raise x es, l, M, k => ∃ C n mk, ExOk Y T x C n mk ∧ wA Y T Γ es l M (fun ds M1 => ds.length = n ∧ k.ex l C (mk ds) M1) (k.ex l)
  | .pass, l, M, k => k.nx l M
  | .brk, l, M, k => k.bk l M
  | .cont, l, M, k => k.ct l M
  | .tryE body cs, l, M, k => ∃ cvs, Paired (fun (ic : IC) cv => ∃ d, NmC Y ic.cls d cv) cs cvs ∧ wB body l M { k with ex := fun l' => wC Y k (cs.zip cvs) l' }
def wB : List IS → Sl → Mem → Kt → Prop
  | [], l, M, k => k.nx l M
  | s :: r, l, M, k => wS s l M { k with nx := fun l' M' => wB r l' M' k }
end
end

/-! ### judgements -/
structure KB (K : PySem.W.Frag) (T : Tb) (M : Mem) (B H : Hp) (D : Ends) (W : WX) (k : Kt) : Prop where
  nx : ∀ σ' l' M' B' H', Go M B H M' B' H' → StR K T l' M' σ' B' H' → k.nx l' M' → D.nx σ' H'
  rt : ∀ v d σ' l' M' B' H', Go M B H M' B' H' → StR K T l' M' σ' B' H' → Rp K B' d v → k.rt d M' → D.rt v H'
  bk : ∀ σ' l' M' B' H', Go M B H M' B' H' → StR K T l' M' σ' B' H' → k.bk l' M' → D.bk σ' H'
  ct : ∀ σ' l' M' B' H', Go M B H M' B' H' → StR K T l' M' σ' B' H' → k.ct l' M' → D.ct σ' H'
  ex : ∀ σ' l' C fs M' B' H' dx gs, Go M B H M' B' H' → StR K T l' M' σ' B' H' → H' dx = some (.xd gs) → RpF K B' fs gs → k.ex l' C fs M' → W (.ref C) (some dx) σ' H'
section
variable {K : PySem.W.Frag} {T : Tb} {M M1 : Mem} {B H B1 H1 : Hp} {D : Ends} {W : WX} {k : Kt} {l : Sl} {σ : L2.St}
theorem KB.step (q : KB K T M B H D W k) (g : Go M B H M1 B1 H1) : KB K T M1 B1 H1 D W k :=
  ⟨fun σ' l' M' B' H' g' => q.nx σ' l' M' B' H' (g.trans g'), fun v d σ' l' M' B' H' g' => q.rt v d σ' l' M' B' H' (g.trans g'), fun σ' l' M' B' H' g' => q.bk σ' l' M' B' H' (g.trans g'), fun σ' l' M' B' H' g' => q.ct σ' l' M' B' H' (g.trans g'),
    fun σ' l' C fs M' B' H' dx gs g' => q.ex σ' l' C fs M' B' H' dx gs (g.trans g')⟩
theorem KB.kx (q : KB K T M B H D W k) : KnX K T l M σ B H W (k.ex l) := fun C fs M' B' H' dx gs g S h r e => q.ex σ l C fs M' B' H' dx gs g S h r e
end
def GS (X : Cx) (T : Tb) (st : Stmt) (l : Sl) (M : Mem) (k : Kt) : Prop := ∀ σ B H, StR X.K T l M σ B H → ∀ D W, Takes X W → KB X.K T M B H D W k → RS X st σ H D
def GB (X : Cx) (T : Tb) (sts : List Stmt) (l : Sl) (M : Mem) (k : Kt) : Prop := ∀ σ B H, StR X.K T l M σ B H → ∀ D W, Takes X W → KB X.K T M B H D W k → RB X sts σ H D
section
variable {X : Cx} {T : Tb} {l : Sl} {M : Mem} {k : Kt} {e c tg iter : Expr} {st : Stmt} {sts sts' : List Stmt} {pos : Pos}
theorem gb_nil (h : k.nx l M) : GB X T [] l M k := fun σ B H S D W tk q => RB.of pss_nil (q.nx σ l M B H Go.refl S h)
theorem gb_cons (h : GS X T st l M { k with nx := fun l' M' => GB X T sts l' M' k }) : GB X T (st :: sts) l M k := fun σ B H S D W tk q =>
  RB.of (pss_cons cS cB) (h σ B H S { D with nx := fun σ' H' => RB X sts σ' H' D } W tk ⟨fun σ' l' M' B' H' g S' z => z σ' B' H' S' D W tk (q.step g), q.rt, q.bk, q.ct, q.ex⟩)
theorem gs_imp {k' : Kt} (h : GS X T st l M k) (h1 : ∀ l M, k.nx l M → k'.nx l M) (h2 : ∀ d M, k.rt d M → k'.rt d M) (h3 : ∀ l M, k.bk l M → k'.bk l M) (h4 : ∀ l M, k.ct l M → k'.ct l M) (h5 : ∀ l C fs M, k.ex l C fs M → k'.ex l C fs M) : GS X T st l M k' := fun σ B H S D W tk q =>
  h σ B H S D W tk ⟨fun σ' l' M' B' H' g S' z => q.nx σ' l' M' B' H' g S' (h1 _ _ z), fun v d σ' l' M' B' H' g S' r z => q.rt v d σ' l' M' B' H' g S' r (h2 _ _ z), fun σ' l' M' B' H' g S' z => q.bk σ' l' M' B' H' g S' (h3 _ _ z),
    fun σ' l' M' B' H' g S' z => q.ct σ' l' M' B' H' g S' (h4 _ _ z), fun σ' l' C fs M' B' H' dx gs g S' hx r z => q.ex σ' l' C fs M' B' H' dx gs g S' hx r (h5 _ _ _ _ z)⟩
theorem gs_ret (h : GE X T e l M k.rt (k.ex l)) : GS X T (.Return (some e) pos) l M k := fun σ B H S D W tk q =>
  RS.of (ps_ret cE) (h σ B H S D.rt W tk (fun v d M' B' H' g S' r z => q.rt v d σ l M' B' H' g S' r z) q.kx)
theorem gs_ret0 (h : k.rt .non M) : GS X T (.Return none pos) l M k := fun σ B H S D W tk q => RS.of ps_retN (q.rt .non .non σ l M B H Go.refl S (by simp only [Rp]) h)
theorem gs_asg {g : TG} {Q : PD} (h : GE X T e l M Q (k.ex l)) (hg : PG X tg g)
    (hq : ∀ d M1, Q d M1 → ∀ σ B H v, StR X.K T l M1 σ B H → Rp X.K B d v → ∀ Qs : L2.St → Hp → Prop, (∀ σ' l', StR X.K T l' M1 σ' B H → k.nx l' M1 → Qs σ' H) → g v σ H Qs)
    (hs : swapsWithSole [tg] e pos.line X.env = pure false) (hw : swappedStores [tg] e X.env = pure none) (h1 : (assignEach [tg] X.env).map (·.2) = [assign tg X.env]) : GS X T (.Assign [tg] e pos) l M k := fun σ B H S D W tk q =>
  RS.of (ps_asg cE hg hs hw h1) (h σ B H S _ W tk (fun v d M' B' H' g' S' r z => hq d M' z σ B' H' v S' r _ fun σ' l' S2 z2 => q.nx σ' l' M' B' H' g' S2 z2) q.kx)
theorem gs_drop (h : GE X T e l M (fun _ M1 => k.nx l M1) (k.ex l)) (hs : swapsWith e none pos.line X.env = pure false) : GS X T (.Expr e pos) l M k := fun σ B H S D W tk q =>
  RS.of (ps_expr cE hs) (h σ B H S _ W tk (fun v d M' B' H' g S' r z => q.nx σ l M' B' H' g S' z) q.kx)
theorem gs_if (h : GT X T c l M (fun t M1 => (t = true → GB X T sts l M1 k) ∧ (t = false → GB X T sts' l M1 k)) (k.ex l)) : GS X T (.If c sts sts' pos) l M k := fun σ B H S D W tk q =>
  RS.of (ps_if cT cB cB) (h σ B H S _ W tk (fun t M1 B1 H1 g S1 z => by
    cases t with
    | true => exact iteT (z.1 rfl σ B1 H1 S1 D W tk (q.step g))
    | false => exact iteF (z.2 rfl σ B1 H1 S1 D W tk (q.step g))) q.kx)
theorem gs_pass (h : k.nx l M) : GS X T (.Pass pos) l M k := fun σ B H S D W tk q => RS.of ps_pass (q.nx σ l M B H Go.refl S h)
theorem gs_brk (h : k.bk l M) : GS X T (.Break pos) l M k := fun σ B H S D W tk q => RS.of ps_break (q.bk σ l M B H Go.refl S h)
theorem gs_cont (h : k.ct l M) : GS X T (.Continue pos) l M k := fun σ B H S D W tk q => RS.of ps_continue (q.ct σ l M B H Go.refl S h)
theorem gs_for {is : List Nat} {body : List Stmt} (hp : PassesOwn (model X.prog X.w) X.A X.env X.xe) (hc : X.calm = true) (hg : PG X tg (gAll X.K is)) (hs : ∀ x, foldedSetIterable iter X.env x = pure x)
    (h : GI X T tg iter l M (fun ds M1 => ∃ I : Nat → Sl → Mem → Prop, I 0 l M1 ∧ (∀ i d l1 M2, ds[i]? = some d → I i l1 M2 → ∃ ps, partsOf is.length d = some ps ∧ GB X T body (setAll l1 is ps) M2 { k with nx := I (i + 1), ct := I (i + 1), bk := k.nx }) ∧
      ∀ l1 M2, I ds.length l1 M2 → k.nx l1 M2) (k.ex l)) : GS X T (.For tg iter body [] pos) l M k := fun σ B H S D W tk q => by
  refine RS.of (ps_for hp hc cI hg cB hs) (h σ B H S _ W tk (fun J ds M1 B1 H1 g S1 w ⟨I, i0, turn, fin⟩ => ?_) q.kx)
  obtain ⟨G, Yy, wk, hG, hY⟩ := w
  have q1 := q.step g
  refine for_it (tb := fun D σ H => RB X body σ H D) (D := D) wk (fun i σ1 H2 => ∃ l1 M2 B2, Go M1 B1 H1 M2 B2 H2 ∧ StR X.K T l1 M2 σ1 B2 H2 ∧ I i l1 M2) ⟨l, M1, B1, Go.refl, S1, i0⟩
    (fun i σ1 H2 _ ⟨l1, M2, B2, g2, S2, _⟩ => hG H2 (g2.b.trans S2.ex)) (fun i v σ1 H2 H3 hi ⟨l1, M2, B2, g2, S2, hI⟩ y => ?_) (fun σ1 H2 ⟨l1, M2, B2, g2, S2, hI⟩ => q1.nx σ1 l1 M2 B2 H2 g2 S2 (fin l1 M2 hI))
  obtain ⟨B3, d, s3, hd, rd⟩ := hY i H2 v H3 B2 hi g2.b S2.ex y
  obtain ⟨ps, hps, run⟩ := turn i d l1 M2 hd hI
  obtain ⟨g3, S3⟩ := S2.step s3
  refine g_all S3.ex S3.sl (rpN nt_ex rd) hps fun σ2 sd _ _ => ?_
  have gg := g2.trans g3
  refine run σ2 _ H3 (S3.slots sd) _ W tk ⟨fun σ' l' M' B' H' g' S' z => ⟨l', M', B', gg.trans g', S', z⟩, (q1.step gg).rt, fun σ' l' M' B' H' g' S' z => (q1.step gg).nx σ' l' M' B' H' g' S' z, fun σ' l' M' B' H' g' S' z => ⟨l', M', B', gg.trans g', S', z⟩, (q1.step gg).ex⟩
theorem gs_while {body : List Stmt} (hp : PassesOwn (model X.prog X.w) X.A X.env X.xe) (I : Nat → Sl → Mem → Prop) {m0 : Nat} (h0 : I m0 l M)
    (h : ∀ m l1 M1, I m l1 M1 → GT X T c l1 M1 (fun t M2 => (t = true → GB X T body l1 M2 { k with nx := fun l' M' => ∃ m', m' < m ∧ I m' l' M', ct := fun l' M' => ∃ m', m' < m ∧ I m' l' M', bk := k.nx }) ∧ (t = false → k.nx l1 M2)) (k.ex l1)) :
    GS X T (.While c body [] pos) l M k := fun σ B H S D W tk q => by
  refine RS.of (ps_while hp cT cB) ⟨fun m σ1 H1 => ∃ l1 M1 B1, Go M B H M1 B1 H1 ∧ StR X.K T l1 M1 σ1 B1 H1 ∧ I m l1 M1, ⟨m0, l, M, B, Go.refl, S, h0⟩, fun m σ1 H1 ⟨l1, M1, B1, g1, S1, hI⟩ => ?_⟩
  have q1 := q.step g1
  refine h m l1 M1 hI σ1 B1 H1 S1 _ W tk (fun t M2 B2 H2 g2 S2 z => ?_) q1.kx
  have gg := g1.trans g2
  have q2 := q1.step g2
  cases t with
  | true => exact iteT ⟨fun σ' H' => ∃ m', m' < m ∧ ∃ l1 M1 B1, Go M B H M1 B1 H' ∧ StR X.K T l1 M1 σ' B1 H' ∧ I m' l1 M1, fun σ' H' ⟨m', a, b⟩ => ⟨m', a, b⟩,
      z.1 rfl σ1 B2 H2 S2 _ W tk ⟨fun σ' l' M' B' H' g' S' ⟨m', a, b⟩ => ⟨m', a, l', M', B', gg.trans g', S', b⟩, q2.rt, q2.nx, fun σ' l' M' B' H' g' S' ⟨m', a, b⟩ => ⟨m', a, l', M', B', gg.trans g', S', b⟩, q2.ex⟩⟩
  | false => exact iteF (q2.nx σ1 l1 M2 B2 H2 Go.refl S2 (z.2 rfl))
theorem gs_fld {o value : Expr} {f : Str} {pos' : Pos} (h : GE X T value l M (fun d M1 => GE X T o l M1 (fun x M2 => ∃ p C fs, x = .ref p ∧ M2.at p = some (.ins C fs) ∧ Cls X.K C ∧ NoAttr X.K C f ∧ fs.length < 1000 ∧ k.nx l (M2.put p (.ins C (putD f d fs)))) (k.ex l)) (k.ex l))
    (hs : swapsWith value (some (.Attribute o f pos')) pos.line X.env = pure false) : GS X T (.Assign [.Attribute o f pos'] value pos) l M k := fun σ B H S D W tk q =>
  RS.of (ps_fld cE cE hs) (h σ B H S _ W tk (fun u d M1 B1 H1 g1 S1 r1 z => z σ B1 H1 S1 _ W tk (fun v x M2 B2 H2 g2 S2 r2 ⟨p, C, fs, ex, hp, c, n, hl, z⟩ => by
    subst ex
    obtain ⟨hb, dx, gs, h1, h2⟩ := S2.mm.at_ p _ hp
    have ev : v = .ref p := by simpa only [Rp] using r2
    refine ⟨p, C, dx, gs, ev, h1, c, n, by rw [← rpf_length h2]; exact hl, ?_⟩
    obtain ⟨g3, S3⟩ := S2.put (u := .ins C dx (putF f u gs)) (o' := .ins C (putD f d fs)) hp ⟨dx, _, upd_same, putD_rp (r1.mono g2.b) h2⟩ (fun _ z => nomatch z)
    exact q.nx σ l _ _ _ ((g1.trans g2).trans g3) S3 z) (q.step g1).kx) q.kx)
theorem gs_raise (hc : X.calm = true) (h : GM X T e l M (k.ex l)) : GS X T (.Raise (some e) none pos) l M k := fun σ B H S D W tk q =>
  RS.of (ps_raise hc tk cMk) (h σ B H S W tk q.kx)
end
end Wx
set_option Elab.async false
set_option linter.all false
set_option maxRecDepth 100000
set_option maxHeartbeats 8000000
/-! Wx, part 9: resolved statements belong to written ones. -/
namespace Wx
open PySem L2 Fx PySem.Spec PyProof.Rows
def swLine (ts : List Expr) : Nat := (ts.head?.map (·.pos.line)).getD 0
def swN (sc : Scope) (ts : List Expr) : List Str := ts.filterMap fun
    | .Name id pos => if sc.names.lookup id == some .local && pos.line == swLine ts then some id else none
    | _ => none
def swC1 (ts vs : List Expr) : Bool := !(ts.length == 2 || ts.length == 3) || vs.length != ts.length
def swC2 (vs : List Expr) : Bool := vs.any fun | .Starred .. => true | _ => false
def swC3 (sc : Scope) (ts : List Expr) : Bool := (swN sc ts).length != ts.length || (swN sc ts).eraseDups.length != (swN sc ts).length
theorem sw_eq {ts vs : List Expr} {k k2 : Nat} {p p2 : Pos} {env : Env} (hk : env.scope.kind = .function) : swappedStores [.Tuple ts k p] (.Tuple vs k2 p2) env =
    (if swC1 ts vs = true then pure none else if swC2 vs = true then pure none else if swC3 env.scope ts = true then pure none else if vs.all (foldedForSure 8) = true then pure none
     else if vs.all (constantsAlone 8) = true then unsupported "assign.tuple-of-constant-expressions:order-of-the-stores" else pure (some (swN env.scope ts))) := by
  have hb : (env.blockKind != ScopeKind.function) = false := by
    unfold Env.blockKind
    rw [hk]
    rfl
  unfold swappedStores
  dsimp only
  rw [hb, Bool.or_false]
  rfl

/-- a comprehension that stores its value by itself -/
def selfB (c : Ck) (x : Str) (p : Pos) : Expr → Bool
  | .ListComp _ _ s p2 => decide (c.sc.names.lookup x = some .local) && (p.line == p2.line) && !(s.names.any fun (n, k) => n == x && (k == .local || k == .cell))
  | _ => false
/-- a comprehension that does not, though it is one -/
def outB (c : Ck) (x : Str) (p : Pos) : Expr → Bool
  | .ListComp _ _ s p2 => !(decide (c.sc.names.lookup x = some .local) && (p.line == p2.line) && !(s.names.any fun (n, k) => n == x && (k == .local || k == .cell)))
  | _ => false
def parB (c : Ck) (is : List Nat) (ts vs : List Expr) : Bool :=
  match is, ts with
  | [i, j], [.Name x _, .Name y _] => decide (i ≠ j) && decide (c.N[i]? = some x) && decide (c.N[j]? = some y) && decide (c.sc.names.lookup x = some .local) && decide (c.sc.names.lookup y = some .local) &&
      decide (swN c.sc ts = [x, y]) && !swC1 ts vs && !swC2 vs && !swC3 c.sc ts && !vs.all (foldedForSure 8) && !vs.all (constantsAlone 8)
  | [i, j, m], [.Name x _, .Name y _, .Name z _] => decide (i ≠ j) && decide (i ≠ m) && decide (j ≠ m) && decide (c.N[i]? = some x) && decide (c.N[j]? = some y) && decide (c.N[m]? = some z) &&
      decide (c.sc.names.lookup x = some .local) && decide (c.sc.names.lookup y = some .local) && decide (c.sc.names.lookup z = some .local) &&
      decide (swN c.sc ts = [x, y, z]) && !swC1 ts vs && !swC2 vs && !swC3 c.sc ts && !vs.all (foldedForSure 8) && !vs.all (constantsAlone 8)
  | _, _ => false
/-- stored by way of the tuple -/
def parN (c : Ck) (is : List Nat) (ts vs : List Expr) : Bool := (swC1 ts vs || swC2 vs || swC3 c.sc ts || vs.all (foldedForSure 8)) && tgEach c is ts && decide (is.length ≠ 1) && decide (is.length < 10)
mutual
def ckS (c : Ck) : IS → Stmt → Bool
  | .ret e, s => match s with
    | .Return (some e') _ => ck c e e'
    | _ => false
  | .ret0, s => match s with
    | .Return none _ => true
    | _ => false
  | .set i e, s => match s with
    | .Assign [.Name x p] e' _ => tg1 c i (.Name x p) && ck c e e' && (noComp e' || selfB c x p e' || outB c x p e')
    | _ => false
  | .unp is e, s => match s with
    | .Assign [.Tuple ts _ _] e' _ => tgEach c is ts && decide (is.length ≠ 1) && ck c e e' && (match e' with | .Tuple _ _ _ => false | _ => true)
    | _ => false
  | .par is es, s => match s with
    | .Assign [.Tuple ts _ _] (.Tuple vs _ _) _ => ckL c es vs && (parB c is ts vs || parN c is ts vs)
    | _ => false
  | .drop e, s => match s with
    | .Expr e' _ => ck c e e' && noComp e'
    | _ => false
  | .ife d a b, s => match s with
    | .If d' a' b' _ => ck c d d' && ckB c a a' && ckB c b b'
    | _ => false
  | .forI tg it body, s => match s with
    | .For tg' iter' body' [] _ => ckI c it tg' iter' && tgB c tg tg' && ckB c body body'
    | _ => false
  | .whl d body, s => match s with
    | .While d' body' [] _ => ck c d d' && ckB c body body'
    | _ => false
  | .fld a f e, s => match s with
    | .Assign [.Attribute a' f' _] e' _ => decide (f = f') && ck c a a' && ck c e e'
    | _ => false
  | .raise x es, s => match s with
    | .Raise (some (.Call (.Name y _) es' [] _)) none _ => decide (x = y) && glB c.sc x && ckL c es es' && !es'.isEmpty
    | _ => false
  | .tryE body cs, s => match s with
    | .Try body' (h0 :: hds) [] [] _ => ckB c body body' && ckC c cs (h0 :: hds)
    | _ => false
  | .pass, s => match s with
    | .Pass _ => true
    | _ => false
  | .brk, s => match s with
    | .Break _ => true
    | _ => false
  | .cont, s => match s with
    | .Continue _ => true
    | _ => false
def ckB (c : Ck) : List IS → List Stmt → Bool
  | [], ss => match ss with
    | [] => true
    | _ => false
  | x :: xs, ss => match ss with
    | s :: ss => ckS c x s && ckB c xs ss
    | _ => false
end
section
variable {T : Tb} {Γ : Gm}
theorem swaps_no {e : Expr} {t : Option Expr} {n : Nat} {env : Env} (h : noComp e = true) : swapsWith e t n env = pure false := by
  cases e <;> first | rfl | cases h
theorem blockKind_of {env : Env} (h : env.scope.kind = .function) : env.blockKind = .function := by
  unfold Env.blockKind
  rw [h]; rfl
theorem swaps_self {c : Ck} {X : Cx} (F : Fit T c X Γ) (hk : X.env.scope.kind = .function) {x : Str} {p : Pos} {e : Expr} {n : Nat} (h : selfB c x p e = true) : swapsWith e (some (.Name x p)) n X.env = pure true := by
  unfold selfB at h
  split at h
  · rename_i a b s p2
    simp only [Bool.and_eq_true, decide_eq_true_eq] at h
    obtain ⟨⟨h1, h2⟩, h3⟩ := h
    have e1 : X.env.kindOf x = some .local := by show X.env.scope.names.lookup x = _; rw [F.sc]; exact h1
    unfold swapsWith
    dsimp only
    rw [blockKind_of hk, e1, show (Expr.ListComp a b s p2).pos = p2 from rfl, h2, h3]
    rfl
  · cases h
theorem swaps_out {c : Ck} {X : Cx} (F : Fit T c X Γ) (hk : X.env.scope.kind = .function) {x : Str} {p : Pos} {e : Expr} {n : Nat} (h : outB c x p e = true) : swapsWith e (some (.Name x p)) n X.env = pure false := by
  unfold outB at h
  split at h
  · rename_i a b s p2
    have e1 : (X.env.kindOf x == some .local) = decide (c.sc.names.lookup x = some .local) := by
      show (X.env.scope.names.lookup x == _) = _
      rw [F.sc]
      by_cases q : c.sc.names.lookup x = some .local
      · rw [q]; simp
      · rw [decide_eq_false q]; exact beq_eq_false_iff_ne.mpr q
    unfold swapsWith
    dsimp only
    rw [blockKind_of hk, e1, show (Expr.ListComp a b s p2).pos = p2 from rfl]
    rw [Bool.not_eq_true'] at h
    show (pure ((true && decide (c.sc.names.lookup x = some .local)) && (p.line == p2.line) && !(s.names.any fun (n, k) => n == x && (k == .local || k == .cell))) : Sem Bool) = _
    rw [Bool.true_and, h]
  · cases h
theorem sw_none {c : Ck} {X : Cx} (F : Fit T c X Γ) (hk : X.env.scope.kind = .function) {is : List Nat} {ts vs : List Expr} {k k2 : Nat} {p p2 : Pos} (h : parN c is ts vs = true) : swappedStores [.Tuple ts k p] (.Tuple vs k2 p2) X.env = pure none := by
  unfold parN at h
  rw [sw_eq hk, F.sc]
  simp only [Bool.and_eq_true, Bool.or_eq_true] at h
  rcases h.1.1.1 with ((h | h) | h) | h
  · rw [if_pos h]
  · rw [if_pos h]; split <;> rfl
  · rw [if_pos h]; repeat (split; rfl)
    rfl
  · rw [if_pos h]; repeat (split; rfl)
    rfl
end
theorem swap_name {x : Str} {p : Pos} {e : Expr} {env : Env} : swappedStores [.Name x p] e env = pure none := by
  cases e <;> rfl
end Wx
set_option Elab.async false
set_option linter.all false
set_option maxRecDepth 100000
set_option maxHeartbeats 4000000
/-! Wx, part 16: try with several clauses, each with a name or without one. -/
namespace Wx
open PySem L2 Fx PySem.Spec PyProof.Rows
/-- a caught error at rest: q is the state, q0 the one that the body left without it -/
structure Rests (X : Cx) (pn0 : List (Addr × Obj)) (x : Addr) (G : Heap) (q0 q : Shared) (σ : L2.St) (H : Hp) (cl : Value) (dx : Option Addr) : Prop where
  iv : Inv X pn0 σ H q0
  gb : ∀ b o, q0.heap.get? b = some o → b ∉ L2.frs X.stack → G.get? b = some o
  us : q0.heap.UpToSlots q.heap
  fz : HandSPX.FlyingZ G (X.env :: X.outer) x (Zc cl dx) q.heap
  nx : H x = none
  eo : q.os = q0.os
  eg : AllBare q.gens
section
variable {X : Cx} {pn0 : List (Addr × Obj)} {x : Addr} {G : Heap} {q0 q : Shared} {σ : L2.St} {H : Hp} {cl : Value} {dx : Option Addr}
theorem Rests.now (R : Rests X pn0 x G q0 q σ H cl dx) : Inv X pn0 σ H q := R.iv.landed R.gb R.fz.1 R.us R.eo R.eg
theorem Rests.on (R : Rests X pn0 x G q0 q σ H cl dx) {h : Heap} (f : HandSPX.FlyingZ G (X.env :: X.outer) x (Zc cl dx) h) (u : q.heap.UpToSlots h) : Rests X pn0 x G q0 { q with heap := h } σ H cl dx :=
  ⟨R.iv, R.gb, R.us.trans u, f, R.nx, R.eo, R.eg⟩
/-- as seen within a clause -/
theorem Rests.inside (R : Rests X pn0 x G q0 q σ H cl dx) (hf : X.env.frame = some X.env.locals) : ∃ (oe : Obj) (vs : Array Value), q.heap.get? x = some oe ∧ Zc cl dx oe ∧ oe.data = .fields vs ∧ Inv (X.suite x ((x, oe) :: (X.pn ++ pn0))) [] σ H q := by
  obtain ⟨oe, vs, e, z, dd⟩ := R.fz.there
  have out : x ∉ L2.frs (X.env :: X.outer) := fun hm => by
    obtain ⟨_, o2, e2, no⟩ := R.fz.2.2.1.mem hm
    cases e.symm.trans e2
    exact no vs dd
  refine ⟨oe, vs, e, z, dd, R.now.suite e dd R.nx (fun w => out ?_) (fun w => out ?_)⟩
  · exact List.mem_filterMap.mpr ⟨X.env, by simp, by rw [hf, w]⟩
  · obtain ⟨v, hv, k⟩ := List.mem_filterMap.mp w
    exact List.mem_filterMap.mpr ⟨v, by simp [hv], k⟩
/-- no clause is left: on it goes -/
theorem Rests.goes (R : Rests X pn0 x G q0 q σ H cl dx) (hs : X.stack = X.env :: X.outer) (hf : X.env.frame = some X.env.locals) {W : WX} (tk : Takes X W) (w : W cl dx σ H) {D : Ends} : wpAny (model X.prog X.w) X.A (handleBy (.ref x) X.env []) (SP X pn0 D) X.xe q := by
  refine wpAny_handleBy_nil ?_
  obtain ⟨_, _, _, oe, vs, tb, _, _, e, _, dd, h1, _⟩ := id R.fz
  have last : wpAny (model X.prog X.w) X.A (setFlight (.ref x) X.env.frame) (fun _ r => wpAny (model X.prog X.w) X.A (throw (.ref x) : Sem Flow) (SP X pn0 D) X.xe r) X.xe q := by
    rw [hf]
    refine HandSPX.setFlight_upZ R.fz fun h hh u => wpAny_throw (tk _ _ ⟨x, G, q0, pn0, σ, H, cl, dx, rfl, R.iv, R.gb, R.us.trans u, .inr (.inr (hs ▸ hh)), R.nx, R.eo, R.eg, w⟩)
  unfold PySem.passOn
  refine wpAny_bind (wpAny_field e dd h1 ?_)
  rw [if_neg (by simp)]
  first
    | exact wpAny_bind last
    | exact wpAny_bind (wpAny_pure (wpAny_bind last))
end
/-- a clause: its class, its name's slot, its suite's wish -/
abbrev Cl := Value × Option Nat × (Addr → Value → Option Addr → TS)
def bindO (o : Option Nat) (x : Addr) (σ : L2.St) : L2.St := match o with
  | some i => σ.set i (some (.ref x))
  | none => σ
def goneO (o : Option Nat) (σ : L2.St) : L2.St := match o with
  | some i => σ.set i none
  | none => σ
def goneE (o : Option Nat) (D : Ends) : Ends := { nx := fun σ H => D.nx (goneO o σ) H, rt := D.rt, bk := fun σ H => D.bk (goneO o σ) H, ct := fun σ H => D.ct (goneO o σ) H }
def wCl (K : PySem.W.Frag) (W : WX) (D : Ends) : List Cl → WX
  | [] => W
  | (c, o, t) :: r => fun cl dx σ H => ∃ b, PySem.W.exmOne K cl c = some b ∧ (b = true → ∀ x, H x = none → t x cl dx (goneE o D) (bindO o x σ) H) ∧ (b = false → wCl K W D r cl dx σ H)
/-- the name's slot -/
def NmO (X : Cx) (n : Option Str) (o : Option Nat) : Prop := match n, o with
  | none, none => True
  | some n, some i => X.N[i]? = some n ∧ X.env.kindOf n = some .local
  | _, _ => False
inductive ClsOk (X : Cx) : List ExceptHandler → List Cl → Prop
  | nil : ClsOk X [] []
  | cons {y : Str} {c : Value} {n : Option Str} {o : Option Nat} {t : Addr → Value → Option Addr → TS} {b : Stmt} {bs : List Stmt} {p1 p2 : Pos} {hs : List ExceptHandler} {l : List Cl} (hc : Names X y c) (hn : NmO X n o)
      (ht : ∀ (x : Addr) (oe : Obj) (cl : Value) (dx : Option Addr) (pn : List (Addr × Obj)), Zc cl dx oe → (∃ vs, oe.data = .fields vs) → PSs (X.suite x ((x, oe) :: pn)) (b :: bs) (t x cl dx)) (r : ClsOk X hs l) : ClsOk X (.ExceptHandler (some (.Name y p1)) n (b :: bs) p2 :: hs) ((c, o, t) :: l)
section
variable {X : Cx} {pn0 : List (Addr × Obj)} {x : Addr} {G : Heap} {q0 : Shared} {σ : L2.St} {H : Hp} {cl : Value} {dx : Option Addr}
theorem Rests.clauses (hs : X.stack = X.env :: X.outer) (hf : X.env.frame = some X.env.locals) (hN : X.N.Nodup) {W : WX} (tk : Takes X W) {D : Ends} {hds : List ExceptHandler} {l : List Cl} (h : ClsOk X hds l) :
    ∀ {q : Shared}, Rests X pn0 x G q0 q σ H cl dx → wCl X.K W D l cl dx σ H → wpAny (model X.prog X.w) X.A (handleBy (.ref x) X.env hds) (SP X pn0 D) X.xe q := by
  induction h with
  | nil => exact fun R w => R.goes hs hf tk w
  | @cons y c n o t b bs p1 p2 hs' l' hc hn ht r ih =>
    intro q R w
    obtain ⟨m, e1, yes, no⟩ := w
    obtain ⟨oe, vs, ge, z, dd, S⟩ := R.inside hf
    refine wpAny_handleBy_cons (codeAny_handlers_test ?_) (by intro k; cases k)
    have ty : PySem.W.Looks (model X.prog X.w) q.heap (typeOf (.ref x)) cl := fun A Q E s k z2 => wpAny_typeOf_ref (k _ _ ge) (by rw [z.1]; exact z2)
    have name : ∀ {Q : Value → Shared → Prop} {E : Value → Shared → Prop}, Q c q → wpAny (model X.prog X.w) (X.A.mark (some (.ref x))) (eval (.Name y p1) X.env) Q E q := fun {Q E} z2 => by
      obtain ⟨g, db, a | ⟨a, b, c⟩⟩ := hc
      · exact ld_glob (X := X.suite x ((x, oe) :: (X.pn ++ pn0))) S g a z2 db
      · exact ld_blt (X := X.suite x ((x, oe) :: (X.pn ++ pn0))) S g a b z2 c db
    refine name ((PySem.W.exm_one (M := model X.prog X.w) S.kIn ty e1).here ?_)
    cases m with
    | false => exact ih R (no rfl)
    | true =>
      have okX := R.now.ok
      have w2 := yes rfl x R.nx
      match n, o, hn, w2 with
      | none, none, _, w2 =>
        refine codeAny_handlers_suite (HandSPX.lands_againZ R.fz fun h f u => ?_)
        obtain ⟨oe2, vs2, _, z2, d2, S2⟩ := (R.on f u).inside hf
        refine wpAny_mono ((ht x oe2 cl dx (X.pn ++ pn0) z2 ⟨_, d2⟩).run [] _ _ H _ S2 w2) (fun fl s' k => ?_) fun _ _ k => k.elim
        match fl, k with
        | .next, ⟨_, _, k1, k2⟩ => exact ⟨_, _, k1.unsuite okX, k2⟩
        | .brk, ⟨_, _, k1, k2⟩ => exact ⟨_, _, k1.unsuite okX, k2⟩
        | .cont, ⟨_, _, k1, k2⟩ => exact ⟨_, _, k1.unsuite okX, k2⟩
        | .ret u, ⟨_, _, _, k1, k2, k3⟩ => exact ⟨_, _, _, k1.unsuite okX, k2, k3⟩
      | some n, some i, ⟨hi, hl⟩, w2 =>
        refine codeAny_handlers_suite_as (HandSPX.lands_againZ R.fz fun h f u => ?_)
        obtain ⟨oe2, vs2, _, z2, d2, S2⟩ := (R.on f u).inside hf
        refine store_ok (X := X.suite x ((x, oe2) :: (X.pn ++ pn0))) (v := .ref x) S2 hN hi (.inl hl) rfl (fun s2 S3 => ?_) (.inr hl)
        refine wpAny_mono ((ht x oe2 cl dx (X.pn ++ pn0) z2 ⟨_, d2⟩).run [] s2 _ H _ S3 w2) (fun fl s' k => ?_) fun _ _ k => k.elim
        match fl, k with
        | .next, ⟨_, _, k1, k2⟩ => exact gone_ok (k1.unsuite okX) hN hi hl fun s3 J => ⟨_, _, J, k2⟩
        | .brk, ⟨_, _, k1, k2⟩ => exact gone_ok (k1.unsuite okX) hN hi hl fun s3 J => ⟨_, _, J, k2⟩
        | .cont, ⟨_, _, k1, k2⟩ => exact gone_ok (k1.unsuite okX) hN hi hl fun s3 J => ⟨_, _, J, k2⟩
        | .ret u, ⟨_, _, _, k1, k2, k3⟩ => exact gone_ok (k1.unsuite okX) hN hi hl fun s3 J => ⟨_, _, _, J, k2, k3⟩
      | none, some _, hn, _ => exact hn.elim
      | some _, none, hn, _ => exact hn.elim
/-- try: the body; except C as n: .. -/
theorem ps_tryC {body : List Stmt} {h0 : ExceptHandler} {hds : List ExceptHandler} {l : List Cl} {pos : Pos} {tb : WX → TS} {W : WX} (hs : X.stack = X.env :: X.outer) (hf : X.env.frame = some X.env.locals) (hN : X.N.Nodup) (tk : Takes X W)
    (hb : ∀ (V : WX) (pn : List (Addr × Obj)) (xe : Value → Shared → Prop), Takes (X.tr pn xe) V → PassesOwn (model X.prog X.w) X.A X.env xe → PSs (X.tr pn xe) body (tb V)) (hh : ClsOk X (h0 :: hds) l) :
    PS X (.Try body (h0 :: hds) [] [] pos) (fun D σ H => tb (wCl X.K W D l) D σ H) := by
  refine ⟨fun pins s σ H D I w => wpAny_Try_except ?_⟩
  have okX := I.ok
  let land : Value → Shared → Prop := fun e r => wpAny (model X.prog X.w) X.A (noteFrame e X.env) (fun _ r2 => wpAny (model X.prog X.w) X.A (setFlight e none) (fun _ r3 => wpAny (model X.prog X.w) X.A (handleBy e X.env (h0 :: hds)) (SP X pins D) X.xe r3) X.xe r2) X.xe r
  have took : Takes (X.tr (X.pn ++ pins) land) (wCl X.K W D l) := fun u r ⟨x, G, q0, pn1, σ1, H1, cl, dx, eu, J, gb, up, sky, nx, eo, eg, wx⟩ => by
    subst eu
    show wpAny (model X.prog X.w) X.A (noteFrame (.ref x) X.env) _ _ _
    refine Sky.land Zc.steady (by rw [okX.frames, hs]) hf (by rw [← hs]; exact sky) fun h f u => ?_
    exact Rests.clauses (x := x) (G := G) (q0 := q0) hs hf hN tk hh ⟨J.ofTry okX, gb, up.trans u, f, nx, eo, eg⟩ wx
  refine wpAny_mono ((hb (wCl X.K W D l) (X.pn ++ pins) land took PassesOwn.looking).run [] s σ H D (I.toTry _) w) (fun fl r k => ?_) fun e r k => k
  match fl, k with
  | .next, ⟨_, _, k1, k2⟩ => exact wpAny_execs_nil ⟨_, _, k1.ofTry okX, k2⟩
  | .brk, ⟨_, _, k1, k2⟩ => exact ⟨_, _, k1.ofTry okX, k2⟩
  | .cont, ⟨_, _, k1, k2⟩ => exact ⟨_, _, k1.ofTry okX, k2⟩
  | .ret u, ⟨_, _, _, k1, k2, k3⟩ => exact ⟨_, _, _, k1.ofTry okX, k2, k3⟩
end
end Wx
set_option Elab.async false
set_option linter.all false
set_option maxRecDepth 100000
set_option maxHeartbeats 4000000
/-! Wx, part 17: isinstance of a caught error with attributes, of one class or of several. -/
namespace PySem.W
open PySem PySem.Spec PySem.Calls PyProof.Rows
section
variable {prog : Program} {w : World} {A : Around} {E : Value → Shared → Prop} {s : Shared} {K : Frag} {x D : Addr} {ox : Obj} {od : Option Obj}
/-- the class of a caught error, whatever its dict -/
theorem wx_errClass {Q : Option Value → Shared → Prop} (T : L2.ExcC K D) (KH : K.In s.heap) (J : InstAt s.heap x ox D od) (yes : Q (some (.ref D)) { s with toks := s.toks + 1 }) : wpAny (model prog w) A (getAttr? (.ref x) "__class__") Q E s := by
  have fo : findObj K D od "__class__" = some (.bind (.builtin "getset_descriptor.__get__") (.builtin "object.__class__")) := by
    obtain ⟨cd, hc, _⟩ := any_some T.hd
    unfold findObj
    rw [show clsIn K D = some cd from hc, Option.bind_some, T.ha, Option.bind_some]
    simp [T.hn, T.ht]
  rcases s with ⟨hp, gn, dr, tk, os⟩
  have ty := J.type (M := model prog w)
  have fg := looks_findIn (M := model prog w) KH T.hg
  have fk := looks_findIn (M := model prog w) KH T.hk
  have fc := looks_find (M := model prog w) KH J fo
  have sb : Looks (model prog w) hp (isInstance (.ref x) (.type "BaseException")) true := ty.andThen (looks_subIn KH T.hs)
  have n2 : (Value.builtin "BaseException.__getattribute__" == Value.builtin "object.__getattribute__") = false := by decide +kernel
  have n1 : (onTheHeap (Value.ref D) && Value.builtin "BaseException.__getattribute__" == Value.builtin "object.__getattribute__") = false := by rw [n2, Bool.and_false]
  have n0 : (false && onTheHeap (Value.builtin "BaseException.__getattribute__")) = false := Bool.false_and _
  unfold getAttr?
  unfold getAttrBy? getAttrBy
  refine wpAny_bind (wpAny_mkText (wpAny_bind (wpAny_attempt (wpAny_holding (wpAny_bind (ty.at (wpAny_bind (fg.at ?_))))))))
  show wpAny _ _ (if (onTheHeap (Value.ref D) && Value.builtin "BaseException.__getattribute__" == Value.builtin "object.__getattribute__") = true then _ else _) _ _ _; rw [n1, if_neg (by decide)]
  unfold getAttrByItsOwn hookBefore; refine wpAny_bind ?_
  rw [if_pos (show onTheHeap (Value.ref D) = true from rfl)]; refine fk.at (wpAny_bind (wpAny_attempt (wpAny_holding ?_)))
  unfold callGetattribute; rw [n0, if_neg (by decide)]
  unfold boundAndCalled; rw [PySem.F.excAttr_ValueError.ga.bind (.ref x)]
  refine wpAny_bind (wpAny_pure ?_)
  show wpAny _ _ (call (.builtin "BaseException.__getattribute__") [.ref x, .str "__class__" tk]) _ _ _; refine wpAny_call (codeAny_call_builtin PySem.F.excAttr_ValueError.ga.plain PySem.F.entry_bexc_ga ?_)
  refine @check_slot (model prog w) _ _ ⟨hp, gn, dr, tk + 1, os⟩ "BaseException.__getattribute__" "BaseException" "__getattribute__" (.ref x) [.str "__class__" tk] [] _ (by decide +kernel) (by decide +kernel) sb (PySem.F.args_bexc_ga (.ref x) (.str "__class__" tk)) ?_
  unfold Builtin.«object.__getattribute__»; refine wpAny_bind (wpAny_of_eq (a := ((Value.ref x : Value), [Value.str "__class__" tk])) (by first | rfl | (simp only [slotArgs]; rfl)) (wpAny_bind (wpAny_pure (wpAny_bind (ty.at (wpAny_bind (fc.at ?_)))))))
  show wpAny _ _ (holding [Value.builtin "object.__class__"] (call (.builtin "getset_descriptor.__get__") [.builtin "object.__class__", .ref x, .ref D]) >>= ret) _ _ _; refine wpAny_bind (wpAny_holding (wpAny_call (class_get (s := ⟨hp, gn, dr, tk + 1, os⟩) (ox := ox) (od := od) KH J T.hm (wpAny_pure ?_))))
  show wpAny _ _ (handedOut (.ref D)) _ _ _; rw [handedOut_of (v := .ref D) rfl]
  first
    | exact wpAny_pure yes
    | exact wpAny_pure (wpAny_pure yes)
    | exact wpAny_pure (wpAny_bind (wpAny_pure (wpAny_pure yes)))
theorem wx_errKit (T : L2.ExcC K D) : KitX K (.ref x) (.ref D) (fun h => ∃ od, InstAt h x ox D od) := by
  obtain ⟨cd, hc, _⟩ := any_some T.hd
  have own : ∃ o, K.lookup D = some o ∧ ∀ its n, o.data ≠ .seq its n := by
    unfold clsIn at hc
    split at hc
    · rename_i e
      exact ⟨_, e, fun _ _ z => nomatch z⟩
    · cases hc
  have isT : ∀ (M : Model) (h : Heap), K.In h → Looks M h (isType (.ref D)) true := fun M h KH => by
    unfold clsIn at hc
    split at hc
    · rename_i e
      exact fun A Q E s k q => by
        unfold isType loadHead
        exact wpAny_bind (wpAny_loadPart (k _ _ (KH _ _ e)) (wpAny_pure q))
    · cases hc
  refine ⟨fun M h _ ⟨_, J⟩ => J.type, fun M h KH _ => isT M h KH, fun h tp dd its n sl KH e => ?_, fun KH ⟨_, J⟩ q => wx_errClass T KH J q⟩
  refine Bool.eq_false_iff.mpr fun z => ?_
  obtain ⟨o, e2, ne⟩ := own
  have e3 := KH _ _ e2
  rw [show D = tp from Value.ref.inj (beq_iff_eq.mp z), e] at e3
  exact ne its.toArray n (by rw [← Option.some.inj e3])
end
end PySem.W
namespace Wx
open PySem L2 Fx PySem.Spec PyProof.Rows
/-- the caught error x, of the class D, stands in the suite -/
theorem err_at {X : Cx} {x D : Addr} {oe : Obj} {dx : Option Addr} {pn pins : List (Addr × Obj)} {σ : L2.St} {H : Hp} {s : Shared} (I : Inv (X.suite x ((x, oe) :: pn)) pins σ H s) (hz : Zc (.ref D) dx oe) (hf : ∃ vs, oe.data = .fields vs) (hd : ∀ a, dx = some a → ∃ gs, H a = some (.xd gs)) : ∃ od, PySem.W.InstAt s.heap x oe D od := by
  obtain ⟨g, _⟩ := I.pin (x, oe) (List.mem_append_left _ List.mem_cons_self)
  obtain ⟨vs, dd⟩ := hf
  have nc : PySem.W.notCls oe = true := by unfold PySem.W.notCls; rw [dd] <;> rfl
  cases dx with
  | none => exact ⟨none, g, hz.1, nc, by rw [hz.2] <;> trivial⟩
  | some a =>
    obtain ⟨gs, hx⟩ := hd a rfl
    obtain ⟨mA, ns, _⟩ := (show ObjOk X.prog X.w H s.heap a (.xd gs) from I.hok a _ hx)
    obtain ⟨od, ho, _⟩ := lookIn_ns ns
    exact ⟨some od, g, hz.1, nc, by rw [hz.2]; exact ho⟩
/-- isinstance(e, C), e the caught error -/
theorem call_err1 {X : Cx} {x D : Addr} {oe : Obj} {dx : Option Addr} {pn : List (Addr × Obj)} (T : ExcC X.K D) (hz : Zc (.ref D) dx oe) (hf : ∃ vs, oe.data = .fields vs) :
    CallR (X.suite x ((x, oe) :: pn)) (.builtin "isinstance") (fun xs H Q => ∃ (c : V) (cv : Value) (b : Bool), xs = [.ref x, c] ∧ ClsV c cv ∧ PySem.W.kitOne X.K (.ref D) cv = some b ∧ (∀ a, dx = some a → ∃ gs, H a = some (.xd gs)) ∧ Q (.bl b) H) := by
  rintro pins s σ H xs us Q I rv ⟨c, cv, b, rfl, hc, e, hd, q⟩
  obtain ⟨u1, u2, rfl, r1, r2⟩ := vals2 rv
  obtain rfl : u1 = Value.ref x := r1
  obtain rfl : u2 = cv := hc.eq r2
  exact PySem.W.kia_one (PySem.W.wx_errKit T) I.kIn (err_at I hz hf hd) e (fun z => nomatch z) fun tk => ⟨.bl b, H, I.kept (t' := tk) fun _ _ z => z, rfl, q⟩
/-- isinstance(e, (C1, ..)) -/
theorem call_errT {X : Cx} {x D : Addr} {oe : Obj} {dx : Option Addr} {pn : List (Addr × Obj)} (T : ExcC X.K D) (hz : Zc (.ref D) dx oe) (hf : ∃ vs, oe.data = .fields vs) :
    CallR (X.suite x ((x, oe) :: pn)) (.builtin "isinstance") (fun xs H Q => ∃ (tp : Addr) (cs : List V) (ws : List Value) (b : Bool), xs = [.ref x, .ref tp] ∧ H tp = some (.tup cs) ∧ Paired ClsV cs ws ∧ PySem.W.kitAny X.K (.ref D) ws = some b ∧ (∀ a, dx = some a → ∃ gs, H a = some (.xd gs)) ∧ Q (.bl b) H) := by
  rintro pins s σ H xs us Q I rv ⟨tp, cs, ws, b, rfl, ht, hc, e, hd, q⟩
  obtain ⟨u1, u2, rfl, r1, r2⟩ := vals2 rv
  obtain rfl : u1 = Value.ref x := r1
  obtain rfl : u2 = Value.ref tp := r2
  obtain ⟨_, its, rw_, ob, g1, g2, n, g3⟩ := (show ObjOk X.prog X.w H s.heap tp (.tup cs) from I.hok tp _ ht)
  obtain rfl := ClsV.all hc rw_
  rcases ob with ⟨oc, od, dt, sl⟩
  dsimp only at g2 g3
  subst g2 g3
  exact PySem.W.kia_tup (PySem.W.wx_errKit T) I.kIn (err_at I hz hf hd) g1 e (fun z => nomatch z) fun tk => ⟨.bl b, H, I.kept (t' := tk) fun _ _ z => z, rfl, q⟩
end Wx
set_option Elab.async false
set_option linter.all false
set_option maxRecDepth 100000
set_option maxHeartbeats 4000000
/-! Wx, part 18: what stands in an except clause: the error's attributes, its classes. -/
namespace Wx
open PySem L2 Fx PySem.Spec PyProof.Rows
theorem Go.xd {K : PySem.W.Frag} {T : Tb} {l : Sl} {M M' : Mem} {σ : L2.St} {B H B' H' : Hp} {a : Addr} {gs : List (Str × V)} (g : Go M B H M' B' H') (S : StR K T l M σ B H) (h : H a = some (.xd gs)) : H' a = some (.xd gs) := by
  refine g.h a _ h (fun hk => ?_) (fun _ z => nomatch z)
  obtain ⟨o, e⟩ := ks_at hk
  obtain ⟨_, m⟩ := S.mm.at_ a o e
  cases o with
  | lst _ => obtain ⟨_, q, _⟩ := m; rw [h] at q; cases q
  | dK _ => obtain ⟨_, q, _⟩ := m; rw [h] at q; cases q
  | dT _ => obtain ⟨_, q, _⟩ := m; rw [h] at q; cases q
  | ins _ _ => obtain ⟨_, _, q, _⟩ := m; rw [h] at q; cases q
  | lam _ _ _ => obtain ⟨_, _, q, _⟩ := m; rw [h] at q; cases q
/-- an expression where the error's attributes fs stand at a -/
def HE (X : Cx) (T : Tb) (a : Addr) (fs : List (Str × D)) (e : Expr) (l : Sl) (M : Mem) (R : D → Prop) : Prop :=
  ∀ σ B H gs, StR X.K T l M σ B H → H a = some (.xd gs) → RpF X.K B fs gs → ∀ Qv : VK, (∀ v d B' H', Go M B H M B' H' → StR X.K T l M σ B' H' → Rp X.K B' d v → R d → Qv v H') → RE X e σ H Qv
def HL (X : Cx) (T : Tb) (a : Addr) (fs : List (Str × D)) (es : List Expr) (l : Sl) (M : Mem) (R : List D → Prop) : Prop :=
  ∀ σ B H gs, StR X.K T l M σ B H → H a = some (.xd gs) → RpF X.K B fs gs → ∀ Qv : List V → Hp → Prop, (∀ v d B' H', Go M B H M B' H' → StR X.K T l M σ B' H' → RpL X.K B' d v → R d → Qv v H') → RA X es σ H Qv
section
variable {X : Cx} {T : Tb} {a : Addr} {fs : List (Str × D)} {e : Expr} {es : List Expr} {l : Sl} {M : Mem} {R : D → Prop} {pos p : Pos}
theorem rpf_mono {K : PySem.W.Frag} {B B' : Hp} {fs : List (Str × D)} {gs : List (Str × V)} (r : RpF K B fs gs) (e : Ex B B') : RpF K B' fs gs := rpfN (fun a o h _ => e a o h) r
theorem HE.imp {R' : D → Prop} (h : HE X T a fs e l M R) (q : ∀ d, R d → R' d) : HE X T a fs e l M R' := fun σ B H gs S hx r Qv k => h σ B H gs S hx r Qv fun v d B' H' g S' rd z => k v d B' H' g S' rd (q d z)
theorem he_en {d : D} (h : ∀ σ B, SdR X.K B l σ → EN X e σ B (Eq d)) (q : R d) : HE X T a fs e l M R := fun σ B H gs S hx r Qv k =>
  h σ B S.sl B H (Ex.refl B) S.ex Qv fun v d' B' H' s z rd => by
    subst z
    obtain ⟨g, S'⟩ := S.step s
    exact k v d _ H' g S' (rpN nt_ex rd) q
theorem he_var {i : Nat} {d : D} {x : Str} (hl : l[i]? = some (some d)) (q : R d) (hN : X.N[i]? = some x) (hv : Vis X.env.scope x) (hd : (x == ("__debug__" : Str)) = false) (hcd : (x == ("__classdict__" : Str)) = false) : HE X T a fs (.Name x pos) l M R := fun σ B H gs S hx r Qv k => by
  obtain ⟨v, h1, h2⟩ := S.sl.at_ i d hl
  exact RE.of (pe_var hN hv hd hcd) ⟨v, h1, k v d B H Go.refl S h2 q⟩
theorem hl_nil {R : List D → Prop} (q : R []) : HL X T a fs [] l M R := fun σ B H gs S hx r Qv k => RA.of pa_nil (k [] [] B H Go.refl S RpL.nil q)
theorem hl_cons {R : List D → Prop} (h : HE X T a fs e l M (fun d => HL X T a fs es l M (fun ds => R (d :: ds)))) (hs : starEach (e :: es) X.env = (false, eval e X.env) :: starEach es X.env) : HL X T a fs (e :: es) l M R := fun σ B H gs S hx r Qv k =>
  RA.of (pa_cons cE cA hs) (h σ B H gs S hx r _ fun v d B1 H1 g1 S1 r1 q => q σ B1 H1 gs S1 (g1.xd S hx) (rpf_mono r g1.b) _ fun vs ds B2 H2 g2 S2 r2 q2 => k (v :: vs) (d :: ds) B2 H2 (g1.trans g2) S2 (RpL.cons (r1.mono g2.b) r2) q2)
theorem he_lst (h : HL X T a fs es l M (fun ds => ds.length ≤ sizeLine ∧ R (.lst ds))) : HE X T a fs (.List es pos) l M R := fun σ B H gs S hx r Qv k =>
  RE.of (pe_lst cA) (h σ B H gs S hx r _ fun vs ds B1 H1 g S1 rd q => ⟨by rw [← rd.length]; exact q.1, fun p hp => by
    obtain ⟨g2, S2⟩ := S1.step (Step.alloc (o := .lst vs) S1.ex hp)
    exact k _ (.lst ds) _ _ (g.trans g2) S2 (rpN nt_ex (Rp.lst.mpr ⟨p, vs, rfl, upd_same, rd.mono (Ex.new (S1.ex.back hp))⟩)) q.2⟩)
theorem he_tup {k0 : Nat} (h : HL X T a fs es l M (fun ds => ds.length ≤ sizeLine ∧ R (.tup ds))) : HE X T a fs (.Tuple es k0 pos) l M R := fun σ B H gs S hx r Qv k =>
  RE.of (pe_tup cA) (h σ B H gs S hx r _ fun vs ds B1 H1 g S1 rd q => ⟨by rw [← rd.length]; exact q.1, fun p hp => by
    obtain ⟨g2, S2⟩ := S1.step (Step.alloc (o := .tup vs) S1.ex hp)
    exact k _ (.tup ds) _ _ (g.trans g2) S2 (rpN nt_ex (Rp.tup.mpr ⟨p, vs, rfl, SqT.of upd_same, rd.mono (Ex.new (S1.ex.back hp))⟩)) q.2⟩)
theorem he_not (h : HE X T a fs e l M (fun d => ∃ t, d = .bl t ∧ R (.bl (!t)))) : HE X T a fs (.UnaryOp .Not e pos) l M R := fun σ B H gs S hx r Qv k =>
  RE.of (pe_not cE) (h σ B H gs S hx r _ fun v d B1 H1 g S1 rd ⟨t, ed, q⟩ => by
    subst ed
    exact ⟨t, Rp.bl.mp rd, k _ _ B1 H1 g S1 (Rp.bl.mpr rfl) q⟩)
theorem he_and1 (h : HE X T a fs e l M R) : HE X T a fs (.BoolOp .And [e] pos) l M R := fun σ B H gs S hx r Qv k => RE.of (pe_one cE) (h σ B H gs S hx r Qv k)
theorem he_and {b : Expr} {rest : List Expr} (h : HE X T a fs e l M (fun d => ∃ t, d = .bl t ∧ (t = true → HE X T a fs (.BoolOp .And (b :: rest) pos) l M R) ∧ (t = false → R (.bl false)))) : HE X T a fs (.BoolOp .And (e :: b :: rest) pos) l M R := fun σ B H gs S hx r Qv k =>
  RE.of (pe_and cE cE) (h σ B H gs S hx r _ fun v d B1 H1 g S1 rd ⟨t, ed, q⟩ => by
    subst ed
    refine ⟨t, Rp.bl.mp rd, ?_⟩
    cases t with
    | true => exact iteT (q.1 rfl σ B1 H1 gs S1 (g.xd S hx) (rpf_mono r g.b) Qv fun v d B2 H2 g2 S2 r2 z => k v d B2 H2 (g.trans g2) S2 r2 z)
    | false => exact iteF (k _ _ B1 H1 g S1 (Rp.bl.mpr rfl) (q.2 rfl)))
end
/-! ### the error itself -/
section
variable {X : Cx} {T : Tb} {x a D' : Addr} {oe : Obj} {pn : List (Addr × Obj)} {fs : List (Str × D)} {e : Expr} {l : Sl} {M : Mem} {R : D → Prop} {pos p : Pos} {n : Str}
theorem he_fld {d : D} (C : XfC X.K D') (hno : PySem.W.findIn X.K (.ref D') n = some none) (hz : Zc (.ref D') (some a) oe) (hf : ∃ vs, oe.data = .fields vs) (hl : fs.lookup n = some d) (he : HE (X.suite x ((x, oe) :: pn)) T a fs e l M (Eq (.ref x))) (q : R d)
    (hb : attributeBase e n X.env (eval e X.env) = eval e X.env) : HE (X.suite x ((x, oe) :: pn)) T a fs (.Attribute e n pos) l M R := fun σ B H gs S hx r Qv k =>
  RE.of (pe_xf C hno hz hf cE hb) (he σ B H gs S hx r _ fun v d' B1 H1 g S1 rd ed => by
    subst ed
    obtain ⟨u, hu, ru⟩ := (rpf_mono r g.b).some hl
    exact ⟨by simpa only [Rp] using rd, rfl, a, gs, u, rfl, g.xd S hx, hu, k u d B1 H1 g S1 ru q⟩)
theorem he_is1 {c : Expr} {dc : D} {cv : Value} {b : Bool} (C : ExcC X.K D') (hz : Zc (.ref D') (some a) oe) (hf : ∃ vs, oe.data = .fields vs) (hm : X.mg "isinstance" = none) (hg : Gl X "isinstance") (hdc : (∃ n, dc = .ty n ∧ cv = .type n) ∨ (∃ C, dc = .ref C ∧ cv = .ref C)) (hk : PySem.W.kitOne X.K (.ref D') cv = some b)
    (he : HE (X.suite x ((x, oe) :: pn)) T a fs e l M (Eq (.ref x))) (hc : HE (X.suite x ((x, oe) :: pn)) T a fs c l M (Eq dc)) (q : R (.bl b)) (hs : starEach [e, c] X.env = (false, eval e X.env) :: starEach [c] X.env) (hs2 : starEach [c] X.env = (false, eval c X.env) :: starEach [] X.env) (hpl : (backTo pos (starEach [c] X.env)).any (·.1) = false) :
    HE (X.suite x ((x, oe) :: pn)) T a fs (.Call (.Name "isinstance" p) [e, c] [] pos) l M R := fun σ B H gs S hx r Qv k =>
  RE.of (pe_callB (call_err1 C hz hf) hg hm (by decide +kernel) (pa_cons cE (pa_cons cE pa_nil hs2) hs) (by decide) (by decide) hs hpl)
    (he σ B H gs S hx r _ fun v d B1 H1 g S1 rd ed => hc σ B1 H1 gs S1 (g.xd S hx) (rpf_mono r g.b) _ fun u d2 B2 H2 g2 S2 ru ed2 => by
      subst ed
      subst ed2
      refine ⟨u, cv, b, by rw [show v = V.ref x from by simpa only [Rp] using rd], ?_, hk, fun a' e' => by cases e'; exact ⟨gs, g2.xd S1 (g.xd S hx)⟩, k _ (.bl b) B2 H2 (g.trans g2) S2 (Rp.bl.mpr rfl) q⟩
      rcases hdc with ⟨n, rfl, rfl⟩ | ⟨C, rfl, rfl⟩
      · simp only [Rp] at ru; subst ru; exact .ty n
      · simp only [Rp] at ru; subst ru; exact .own C)
theorem he_isT {ts : List Expr} {k0 : Nat} {tp : Pos} {ds : List D} {cs : List Value} {b : Bool} (C : ExcC X.K D') (hz : Zc (.ref D') (some a) oe) (hf : ∃ vs, oe.data = .fields vs) (hm : X.mg "isinstance" = none) (hg : Gl X "isinstance") (hdc : Paired (fun d c => (∃ n, d = D.ty n ∧ c = Value.type n) ∨ (∃ C, d = D.ref C ∧ c = Value.ref C)) ds cs) (hk : PySem.W.kitAny X.K (.ref D') cs = some b) (hlen : ds.length ≤ sizeLine)
    (he : HE (X.suite x ((x, oe) :: pn)) T a fs e l M (Eq (.ref x))) (hc : HL (X.suite x ((x, oe) :: pn)) T a fs ts l M (Eq ds)) (q : R (.bl b)) (hs : starEach [e, .Tuple ts k0 tp] X.env = (false, eval e X.env) :: starEach [.Tuple ts k0 tp] X.env) :
    HE (X.suite x ((x, oe) :: pn)) T a fs (.Call (.Name "isinstance" p) [e, .Tuple ts k0 tp] [] pos) l M R := fun σ B H gs S hx r Qv k =>
  RE.of (pe_callB (call_errT C hz hf) hg hm (by decide +kernel) (pa_cons cE (pa_cons (pe_tup cA) pa_nil rfl) hs) (by decide) (by decide) hs rfl)
    (he σ B H gs S hx r _ fun v d B1 H1 g S1 rd ed => hc σ B1 H1 gs S1 (g.xd S hx) (rpf_mono r g.b) _ fun us ds2 B2 H2 g2 S2 ru ed2 => by
      subst ed
      subst ed2
      refine ⟨by rw [← ru.length]; exact hlen, fun t0 ht0 => ?_⟩
      obtain ⟨g3, S3⟩ := S2.step (Step.alloc (o := .tup us) S2.ex ht0)
      have gg := (g.trans g2).trans g3
      exact ⟨t0, us, cs, b, by rw [show v = V.ref x from by simpa only [Rp] using rd], upd_same, clsV_of hdc ru, hk, fun a' e' => by cases e'; exact ⟨gs, gg.xd S hx⟩, k _ (.bl b) _ _ gg S3 (Rp.bl.mpr rfl) q⟩)
end
end Wx
set_option Elab.async false
set_option linter.all false
set_option maxRecDepth 100000
set_option maxHeartbeats 4000000
/-! Wx, part 19: try by data. -/
namespace Wx
open PySem L2 Fx PySem.Spec PyProof.Rows
/-- statements of a clause: the error's attributes fs stand at a; nothing is raised -/
def HB (X : Cx) (T : Tb) (a : Addr) (fs : List (Str × D)) (sts : List Stmt) (l : Sl) (M : Mem) (k : Kt) : Prop :=
  ∀ σ B H gs, StR X.K T l M σ B H → H a = some (.xd gs) → RpF X.K B fs gs → ∀ D : Ends, KB X.K T M B H D (fun _ _ _ _ => False) { k with ex := fun _ _ _ _ => False } → RB X sts σ H D
section
variable {X : Cx} {T : Tb} {a : Addr} {fs : List (Str × D)} {e tg : Expr} {l : Sl} {M : Mem} {k : Kt} {pos : Pos} {sts : List Stmt}
theorem hb_nil (h : k.nx l M) : HB X T a fs [] l M k := fun σ B H gs S hx r D q => RB.of pss_nil (q.nx σ l M B H Go.refl S h)
theorem hb_ret (h : HE X T a fs e l M (fun d => k.rt d M)) : HB X T a fs (.Return (some e) pos :: sts) l M k := fun σ B H gs S hx r D q =>
  RB.of (pss_cons (ps_ret cE) cB) (h σ B H gs S hx r D.rt fun v d B' H' g S' rd z => q.rt v d σ l M B' H' g S' rd z)
theorem hb_asg {g : TG} {Q : PD} (h : HE X T a fs e l M (fun d => Q d M)) (hg : PG X tg g)
    (hq : ∀ d, Q d M → ∀ σ B H v, StR X.K T l M σ B H → Rp X.K B d v → ∀ Qs : L2.St → Hp → Prop, (∀ σ' l', StR X.K T l' M σ' B H → HB X T a fs sts l' M k → Qs σ' H) → g v σ H Qs)
    (hs : swapsWithSole [tg] e pos.line X.env = pure false) (hw : swappedStores [tg] e X.env = pure none) (h1 : (assignEach [tg] X.env).map (·.2) = [assign tg X.env]) : HB X T a fs (.Assign [tg] e pos :: sts) l M k := fun σ B H gs S hx r D q =>
  RB.of (pss_cons (ps_asg cE hg hs hw h1) cB) (h σ B H gs S hx r _ fun v d B' H' g' S' rd z => hq d z σ B' H' v S' rd _ fun σ' l' S2 z2 => z2 σ' B' H' gs S2 (g'.xd S hx) (rpf_mono r g'.b) D (q.step g'))
end
/-! ### the clauses by data -/
def goneK (o : Option Nat) (k : Kt) : Kt := { k with nx := fun l M => k.nx (goneS o l) M, bk := fun l M => k.bk (goneS o l) M, ct := fun l M => k.ct (goneS o l) M }
theorem SdR.bind {K : PySem.W.Frag} {B : Hp} {l : Sl} {σ : L2.St} (s : SdR K B l σ) (o : Option Nat) (x : Addr) : SdR K B (bindS o x l) (bindO o x σ) := by
  cases o with
  | none => exact s
  | some i => exact s.set (by simp only [Rp])
theorem SdR.gone {K : PySem.W.Frag} {B : Hp} {l : Sl} {σ : L2.St} (s : SdR K B l σ) (o : Option Nat) : SdR K B (goneS o l) (goneO o σ) := by
  cases o with
  | none => exact s
  | some i =>
    refine ⟨by show (l.set i none).length = (σ.set i none).length; rw [List.length_set, List.length_set]; exact s.len, fun j d h => ?_⟩
    have h : (l.set i none)[j]? = some (some d) := h
    show ∃ v, (σ.set i none)[j]? = some (some v) ∧ _
    by_cases e : i = j
    · subst e
      by_cases hl : i < l.length
      · rw [List.getElem?_set_self hl] at h; cases h
      · rw [List.getElem?_eq_none (by rw [List.length_set]; omega)] at h; cases h
    · rw [List.getElem?_set_ne e] at h ⊢
      exact s.at_ j d h
abbrev ClD := Value × Option Nat × (Addr → List (Str × D) → Sl → Mem → Prop)
/-- what the clauses wish of an error -/
def exD (K : PySem.W.Frag) (k : Kt) : List ClD → Sl → PX
  | [], l, C, fs, M => k.ex l C fs M
  | (c, _, w) :: r, l, C, fs, M => ∃ b, PySem.W.exmOne K (.ref C) c = some b ∧ (b = true → w C fs l M) ∧ (b = false → exD K k r l C fs M)
inductive ClsD (X : Cx) (T : Tb) (k : Kt) : List ExceptHandler → List ClD → Prop
  | nil : ClsD X T k [] []
  | cons {y : Str} {c : Value} {n : Option Str} {o : Option Nat} {w : Addr → List (Str × D) → Sl → Mem → Prop} {b : Stmt} {bs : List Stmt} {p1 p2 : Pos} {hs : List ExceptHandler} {r : List ClD} (hc : Names X y c) (hn : NmO X n o)
      (ht : ∀ C fs l M, w C fs l M → ∀ (x a : Addr) (oe : Obj) (pn : List (Addr × Obj)), Zc (.ref C) (some a) oe → (∃ vs, oe.data = .fields vs) → HB (X.suite x ((x, oe) :: pn)) T a fs (b :: bs) (bindS o x l) M (goneK o k)) (rest : ClsD X T k hs r) :
      ClsD X T k (.ExceptHandler (some (.Name y p1)) n (b :: bs) p2 :: hs) ((c, o, w) :: r)
/-- a clause's suite as it runs -/
def tSuite (X : Cx) (sts : List Stmt) : Addr → Value → Option Addr → TS := fun x cl dx D σ H => ∀ (oe : Obj) (pn : List (Addr × Obj)), Zc cl dx oe → (∃ vs, oe.data = .fields vs) → RB (X.suite x ((x, oe) :: pn)) sts σ H D
section
variable {X : Cx} {T : Tb} {l : Sl} {M : Mem} {k : Kt}
theorem cls_run {hds : List ExceptHandler} {cs : List ClD} (h : ClsD X T k hds cs) : ∃ ls : List Cl, ClsOk X hds ls ∧ ∀ (D : Ends) (W : WX) (M0 : Mem) (B0 H0 : Hp), KB X.K T M0 B0 H0 D W k → ∀ σ l C fs M B H dx gs, Go M0 B0 H0 M B H → StR X.K T l M σ B H → H dx = some (.xd gs) → RpF X.K B fs gs → exD X.K k cs l C fs M → wCl X.K W D ls (.ref C) (some dx) σ H := by
  induction h with
  | nil => exact ⟨[], .nil, fun D W M0 B0 H0 q σ l C fs M B H dx gs g S hx r z => q.ex σ l C fs M B H dx gs g S hx r z⟩
  | @cons y c n o w b bs p1 p2 hs rr hc hn ht rest ih =>
    obtain ⟨ls, h1, h2⟩ := ih
    refine ⟨(c, o, tSuite X (b :: bs)) :: ls, .cons hc hn (fun x oe cl dx pn z1 z2 => ⟨fun pins s σ H D I t => (cB (X := X.suite x ((x, oe) :: pn)) (sts := b :: bs)).run pins s σ H D I (t oe pn z1 z2)⟩) h1, fun D W M0 B0 H0 q σ l C fs M B H dx gs g S hx r ⟨m, e1, yes, no⟩ => ⟨m, e1, fun em x nx oe pn z1 z2 => ?_, fun em => h2 D W M0 B0 H0 q σ l C fs M B H dx gs g S hx r (no em)⟩⟩
    have S1 : StR X.K T (bindS o x l) M (bindO o x σ) B H := S.slots (S.sl.bind o x)
    have q1 := q.step g
    exact ht C fs l M (yes em) x dx oe pn z1 z2 (bindO o x σ) B H gs S1 hx r (goneE o D)
      ⟨fun σ' l' M' B' H' g' S' z => q1.nx _ _ M' B' H' g' (S'.slots (S'.sl.gone o)) z, fun v d σ' l' M' B' H' g' S' rd z => q1.rt v d σ' l' M' B' H' g' S' rd z, fun σ' l' M' B' H' g' S' z => q1.bk _ _ M' B' H' g' (S'.slots (S'.sl.gone o)) z,
        fun σ' l' M' B' H' g' S' z => q1.ct _ _ M' B' H' g' (S'.slots (S'.sl.gone o)) z, fun _ _ _ _ _ _ _ _ _ _ _ _ _ z => z⟩
/-- THE RULE for try -/
theorem gs_try {body : List Stmt} {h0 : ExceptHandler} {hds : List ExceptHandler} {cs : List ClD} {pos : Pos} (hs : X.stack = X.env :: X.outer) (hf : X.env.frame = some X.env.locals) (hN : X.N.Nodup) (hc : ClsD X T k (h0 :: hds) cs)
    (hb : ∀ (pn : List (Addr × Obj)) (xe : Value → Shared → Prop), PassesOwn (model X.prog X.w) X.A X.env xe → GB (X.tr pn xe) T body l M { k with ex := exD X.K k cs }) : GS X T (.Try body (h0 :: hds) [] [] pos) l M k := fun σ B H S D W tk q => by
  obtain ⟨ls, h1, h2⟩ := cls_run hc
  refine RS.of (ps_tryC (tb := fun V D σ H => ∀ (pn : List (Addr × Obj)) (xe : Value → Shared → Prop), Takes (X.tr pn xe) V → PassesOwn (model X.prog X.w) X.A X.env xe → RB (X.tr pn xe) body σ H D) hs hf hN tk (fun V pn xe tk' po => ⟨fun pins s σ H D I t => (cB (X := X.tr pn xe) (sts := body)).run pins s σ H D I (t pn xe tk' po)⟩) h1) ?_
  exact fun pn xe tk' po => hb pn xe po σ B H S D _ tk' ⟨q.nx, q.rt, q.bk, q.ct, fun σ' l' C fs M' B' H' dx gs g S' hx r z => h2 D W M B H q σ' l' C fs M' B' H' dx gs g S' hx r z⟩
end
end Wx
set_option Elab.async false
set_option linter.all false
set_option maxRecDepth 100000
set_option maxHeartbeats 4000000
/-! Wx, part 20: the small language of except clauses. -/
namespace Wx
open PySem L2 Fx PySem.Spec PyProof.Rows
/-! ### soundness -/
section
variable {c : Ck} {X : Cx} {T : Tb} {Γ : Gm} {x C a : Addr} {oe : Obj} {pn : List (Addr × Obj)} {fs : List (Str × D)} {l : Sl} {M : Mem}
theorem nmV_of {i : Nat} {e : Expr} (h : nmV c i e = true) : ∃ y p, e = .Name y p ∧ c.N[i]? = some y ∧ isVis c.sc y = true ∧ (y == ("__debug__" : Str)) = false ∧ (y == ("__classdict__" : Str)) = false := by
  unfold nmV at h
  split at h
  · rename_i y p
    unfold nmB at h
    simp only [Bool.and_eq_true, decide_eq_true_eq, Bool.not_eq_true'] at h
    exact ⟨y, p, rfl, h.1.1, h.1.2, h.2.1, h.2.2⟩
  · cases h
theorem nmG_of {k : Str} {e : Expr} (h : nmG c k e = true) : ∃ p, e = .Name k p ∧ glB c.sc k = true := by
  unfold nmG at h
  split at h
  · rename_i y p
    simp only [Bool.and_eq_true, decide_eq_true_eq] at h
    obtain ⟨rfl, h2⟩ := h
    exact ⟨p, rfl, h2⟩
  · cases h
theorem ckH_plain {h : IH} {e : Expr} (k : ckH c h e = true) : plainE e = true := by
  cases h with
  | v i => unfold ckH at k; obtain ⟨y, p, rfl, _⟩ := nmV_of k; rfl
  | _ => unfold ckH at k; split at k <;> first | rfl | cases k
theorem he_slot (F : Fit T c X Γ) {i : Nat} {e : Expr} {d : D} {R : D → Prop} (h : nmV c i e = true) (hl : l[i]? = some (some d)) (q : R d) : HE (X.suite x ((x, oe) :: pn)) T a fs e l M R := by
  obtain ⟨y, p, rfl, h1, h2, h3, h4⟩ := nmV_of h
  exact he_var hl q (by rw [← h1]; exact congrArg (fun n : List Str => n[i]?) F.N) (F.vis h2) h3 h4
theorem he_cls (F : Fit T c X Γ) {k : Str} {e : Expr} {d : D} {cv : Value} (h : nmG c k e = true) (n : NmC (cof X) k d cv) : HE (X.suite x ((x, oe) :: pn)) T a fs e l M (Eq d) := by
  obtain ⟨p, rfl, h1⟩ := nmG_of h
  obtain ⟨g, db⟩ := F.gl h1
  rcases n with ⟨C, m, rfl, _⟩ | ⟨n, m, b, nn, rfl, _⟩
  · exact he_en (fun σ B _ => en_cls (X := X.suite x ((x, oe) :: pn)) m g db) rfl
  · exact he_en (fun σ B _ => en_ty (X := X.suite x ((x, oe) :: pn)) m b g nn db) rfl
theorem hl_cls (F : Fit T c X Γ) : ∀ {ks : List Str} {es : List Expr} {qs : List (D × Value)}, nmGs c ks es = true → Paired (fun k (q : D × Value) => NmC (cof X) k q.1 q.2) ks qs → HL (X.suite x ((x, oe) :: pn)) T a fs es l M (Eq (qs.map (·.1)))
  | [], [], _, _, .nil => hl_nil rfl
  | k :: ks, e :: es, _, h, .cons n r => by
    unfold nmGs at h
    rw [Bool.and_eq_true] at h
    obtain ⟨p, rfl, _⟩ := nmG_of h.1
    exact hl_cons ((he_cls F h.1 n).imp fun d ed => fun σ B H gs S hx rf Qv kk => hl_cls F h.2 r σ B H gs S hx rf Qv fun v ds B' H' g S' rd eds => kk v ds B' H' g S' rd (by rw [← ed, ← eds]; rfl)) rfl
  | [], _ :: _, _, h, _ => by unfold nmGs at h; cases h
  | _ :: _, [], _, h, _ => by unfold nmGs at h; cases h
end
end Wx
set_option Elab.async false
set_option linter.all false
set_option maxRecDepth 100000
set_option maxHeartbeats 4000000
/-! Wx, part 21: soundness of clauses. -/
namespace Wx
open PySem L2 Fx PySem.Spec PyProof.Rows
section
variable {T : Tb} {Γ : Gm} {x C a : Addr} {oe : Obj} {pn : List (Addr × Obj)} {fs : List (Str × D)} {l : Sl} {M : Mem}
mutual
theorem sH {c : Ck} {X : Cx} (F : Fit T c X Γ) (hz : Zc (.ref C) (some a) oe) (hf : ∃ vs, oe.data = .fields vs) : (h : IH) → (e : Expr) → ckH c h e = true → ∀ {R : D → Prop}, wH (cof X) x C fs l h R → HE (X.suite x ((x, oe) :: pn)) T a fs e l M R
  | .v i, e, h, R, w => by
    unfold ckH at h
    unfold wH at w
    obtain ⟨d, h1, q⟩ := w
    exact he_slot F h h1 q
  | .str z, e, h, R, w => by
    unfold ckH at h
    split at h
    · obtain rfl := of_decide_eq_true h
      unfold wH at w
      exact he_en (fun σ B _ => en_str) w
    · cases h
  | .int z, e, h, R, w => by
    unfold ckH at h
    split at h
    · obtain rfl := of_decide_eq_true h
      unfold wH at w
      exact he_en (fun σ B _ => en_int) w
    · cases h
  | .bl z, e, h, R, w => by
    unfold ckH at h
    split at h
    · obtain rfl := of_decide_eq_true h
      unfold wH at w
      exact he_en (fun σ B _ => en_bl) w
    · cases h
  | .non, e, h, R, w => by
    unfold ckH at h
    split at h
    · unfold wH at w
      exact he_en (fun σ B _ => en_non) w
    · cases h
  | .xf i f, e, h, R, w => by
    unfold ckH at h
    split at h
    · simp only [Bool.and_eq_true, decide_eq_true_eq] at h
      obtain ⟨rfl, h2⟩ := h
      unfold wH at w
      obtain ⟨w1, w2, w3, d, w4, q⟩ := w
      have h2' := h2
      obtain ⟨y, p, rfl, _⟩ := nmV_of h2'
      exact he_fld w2 w3 hz hf w4 (he_slot F h2 w1 rfl) q rfl
    · cases h
  | .is1 i k, e, h, R, w => by
    unfold ckH at h
    split at h
    · simp only [Bool.and_eq_true, decide_eq_true_eq] at h
      obtain ⟨⟨⟨⟨rfl, h1⟩, h2⟩, h3⟩, h4⟩ := h
      unfold wH at w
      obtain ⟨w1, w2, d, cv, b, w3, w4, q⟩ := w
      have h3' := h3
      have h4' := h4
      obtain ⟨y, p, rfl, _⟩ := nmV_of h3'
      obtain ⟨p2, rfl, _⟩ := nmG_of h4'
      refine he_is1 w2 hz hf (F.bs _ h1) (F.gl h2).1 ?_ w4 (he_slot F h3 w1 rfl) (he_cls F h4 w3) q rfl rfl rfl
      rcases w3 with ⟨C, _, rfl, rfl⟩ | ⟨n, _, _, _, rfl, rfl⟩
      · exact .inr ⟨C, rfl, rfl⟩
      · exact .inl ⟨n, rfl, rfl⟩
    · cases h
  | .isT i ks, e, h, R, w => by
    unfold ckH at h
    split at h
    · simp only [Bool.and_eq_true, decide_eq_true_eq] at h
      obtain ⟨⟨⟨⟨rfl, h1⟩, h2⟩, h3⟩, h4⟩ := h
      unfold wH at w
      obtain ⟨w1, w2, qs, b, w3, w5, w4, q⟩ := w
      have h3' := h3
      obtain ⟨y, p, rfl, _⟩ := nmV_of h3'
      have pr : Paired (fun d c => (∃ n, d = D.ty n ∧ c = Value.type n) ∨ (∃ C, d = D.ref C ∧ c = Value.ref C)) (qs.map (·.1)) (qs.map (·.2)) := by
        clear w4 w5 h4
        induction w3 with
        | nil => exact .nil
        | cons n r ih =>
          refine .cons ?_ ih
          rcases n with ⟨C, _, e1, e2⟩ | ⟨n, _, _, _, e1, e2⟩
          · exact .inr ⟨C, e1, e2⟩
          · exact .inl ⟨n, e1, e2⟩
      have ln : (qs.map (·.1)).length = ks.length := by
        rw [List.length_map]
        clear w4 w5 h4 pr
        induction w3 with
        | nil => rfl
        | cons n r ih => simp only [List.length_cons, ih]
      exact he_isT w2 hz hf (F.bs _ h1) (F.gl h2).1 pr w4 (by rw [ln]; exact w5) (he_slot F h3 w1 rfl) (hl_cls F h4 w3) q rfl
    · cases h
  | .and es, e, h, R, w => by
    unfold ckH at h
    split at h
    · unfold wH at w
      exact sHa F hz hf es _ _ h w
    · cases h
  | .not b, e, h, R, w => by
    unfold ckH at h
    split at h
    · unfold wH at w
      exact he_not (sH F hz hf b _ h w)
    · cases h
  | .lst es, e, h, R, w => by
    unfold ckH at h
    split at h
    · unfold wH at w
      exact he_lst (sHl F hz hf es _ h w)
    · cases h
  | .tup es, e, h, R, w => by
    unfold ckH at h
    split at h
    · unfold wH at w
      exact he_tup (sHl F hz hf es _ h w)
    · cases h
termination_by h => (sizeOf h, 0)
theorem sHa {c : Ck} {X : Cx} (F : Fit T c X Γ) (hz : Zc (.ref C) (some a) oe) (hf : ∃ vs, oe.data = .fields vs) : (hs : List IH) → (es : List Expr) → (pos : Pos) → ckHl c hs es = true → ∀ {R : D → Prop}, wHa (cof X) x C fs l hs R → HE (X.suite x ((x, oe) :: pn)) T a fs (.BoolOp .And es pos) l M R
  | [], es, pos, h, R, w => by
    unfold wHa at w
    exact w.elim
  | [b], es, pos, h, R, w => by
    unfold ckHl at h
    split at h
    · rw [Bool.and_eq_true] at h
      have h2 := h.2
      unfold ckHl at h2
      split at h2
      · unfold wHa at w
        exact he_and1 (sH F hz hf b _ h.1 w)
      · cases h2
    · cases h
  | b :: b2 :: r, es, pos, h, R, w => by
    unfold ckHl at h
    split at h
    · rw [Bool.and_eq_true] at h
      rename_i e es
      cases es with
      | nil => have h2 := h.2; unfold ckHl at h2; cases h2
      | cons e1 es1 =>
        unfold wHa at w
        exact he_and ((sH F hz hf b _ h.1 w).imp fun d ⟨t, ed, w1, w0⟩ => ⟨t, ed, fun q => sHa F hz hf (b2 :: r) (e1 :: es1) pos h.2 (w1 q), w0⟩)
    · cases h
termination_by hs => (sizeOf hs, 0)
theorem sHl {c : Ck} {X : Cx} (F : Fit T c X Γ) (hz : Zc (.ref C) (some a) oe) (hf : ∃ vs, oe.data = .fields vs) : (hs : List IH) → (es : List Expr) → ckHl c hs es = true → ∀ {R : List D → Prop}, wHl (cof X) x C fs l hs R → HL (X.suite x ((x, oe) :: pn)) T a fs es l M R
  | [], es, h, R, w => by
    unfold ckHl at h
    split at h
    · unfold wHl at w
      exact hl_nil w
    · cases h
  | b :: r, es, h, R, w => by
    unfold ckHl at h
    split at h
    · rw [Bool.and_eq_true] at h
      unfold wHl at w
      exact hl_cons ((sH F hz hf b _ h.1 w).imp fun d w => sHl F hz hf r _ h.2 w) (star_of (ckH_plain h.1))
    · cases h
termination_by hs => (sizeOf hs, 0)
end
end
end Wx
set_option Elab.async false
set_option linter.all false
set_option maxRecDepth 100000
set_option maxHeartbeats 4000000
/-! Wx, part 22: a clause's statements. -/
namespace Wx
open PySem L2 Fx PySem.Spec PyProof.Rows
section
variable {c : Ck} {X : Cx} {T : Tb} {Γ : Gm} {x C a : Addr} {oe : Obj} {pn : List (Addr × Obj)} {fs : List (Str × D)} {M : Mem} {k : Kt}
theorem pg_suite (F : Fit T c X Γ) {i : Nat} {e : Expr} (h : tg1 c i e = true) : PG (X.suite x ((x, oe) :: pn)) e (gName i) := by
  unfold tg1 at h
  split at h
  · rename_i y p
    rw [Bool.and_eq_true, Bool.or_eq_true, Bool.and_eq_true] at h
    simp only [decide_eq_true_eq] at h
    have hi : X.N[i]? = some y := by rw [F.N]; exact h.1
    rcases h.2 with z | ⟨z1, z2⟩
    · exact pg_name (X := X.suite x ((x, oe) :: pn)) F.nd hi (.inl (by show X.env.scope.names.lookup y = _; rw [F.sc]; exact z)) (.inr (by show X.env.scope.names.lookup y = _; rw [F.sc]; exact z))
    · exact pg_name (X := X.suite x ((x, oe) :: pn)) F.nd hi (.inr (by show X.env.scope.names.lookup y = _; rw [F.sc]; exact z2)) (.inl (F.top z1 y))
  · cases h
theorem sG (F : Fit T c X Γ) (hz : Zc (.ref C) (some a) oe) (hf : ∃ vs, oe.data = .fields vs) : ∀ (g : List IG) (ss : List Stmt), ckG c g ss = true → ∀ {l : Sl}, wG (cof X) x C fs g l (fun l' => k.nx l' M) (fun d => k.rt d M) → HB (X.suite x ((x, oe) :: pn)) T a fs ss l M k
  | [], ss, h, l, w => by
    unfold ckG at h
    split at h
    · unfold wG at w
      exact hb_nil w
    · cases h
  | .set i e :: r, ss, h, l, w => by
    unfold ckG at h
    split at h
    · rename_i y p e' pos ss
      simp only [Bool.and_eq_true] at h
      obtain ⟨⟨⟨h1, h2⟩, h3⟩, h4⟩ := h
      have sw : swapsWith e' (some (.Name y p)) pos.line X.env = pure false := swaps_no h3
      unfold wG at w
      exact hb_asg (Q := fun d M' => wG (cof X) x C fs r (l.set i (some d)) (fun l' => k.nx l' M) (fun d => k.rt d M)) (sH F hz hf e _ h2 w) (pg_suite F h1) (fun d z σ B H v S rv Qs kk => kk _ _ (S.slots (S.sl.set rv)) (sG F hz hf r _ h4 z)) sw swap_name rfl
    · cases h
  | .ret e :: r, ss, h, l, w => by
    unfold ckG at h
    split at h
    · unfold wG at w
      exact hb_ret (sH F hz hf e _ h w)
    · cases h
theorem cls_of (F : Fit T c X Γ) : ∀ {cs : List IC} {hds : List ExceptHandler} {cvs : List Value}, ckC c cs hds = true → Paired (fun (ic : IC) cv => ∃ d, NmC (cof X) ic.cls d cv) cs cvs →
    ∃ cds : List ClD, ClsD X T k hds cds ∧ ∀ l C fs M, wC (cof X) k (cs.zip cvs) l C fs M → exD X.K k cds l C fs M
  | [], hds, _, h, .nil => by
    unfold ckC at h
    split at h
    · exact ⟨[], .nil, fun l C fs M w => by unfold exD; simpa only [List.zip_nil_left, wC] using w⟩
    · cases h
  | ic :: r, hds, _, h, .cons (b := cv) (l₂ := cvs) n pr => by
    unfold ckC at h
    split at h
    · rename_i y p1 nm b bs p2 hs
      simp only [Bool.and_eq_true, decide_eq_true_eq] at h
      obtain ⟨⟨⟨⟨hy, h1⟩, h2⟩, h3⟩, h4⟩ := h
      obtain ⟨cds, q1, q2⟩ := cls_of F h4 pr
      obtain ⟨g, db⟩ := F.gl h1
      refine ⟨(cv, ic.slot, fun C fs l M => ∀ x, wG (cof X) x C fs ic.body (bindS ic.slot x l) (fun l' => k.nx (goneS ic.slot l') M) (fun d => k.rt d M)) :: cds, .cons ?_ ?_ (fun C fs l M w x a oe pn hz hf => sG (k := goneK ic.slot k) F hz hf ic.body (b :: bs) h3 (w x)) q1, fun l C fs M w => ?_⟩
      · obtain ⟨d, nn⟩ := n
        rw [hy] at nn
        rcases nn with ⟨C, m, _, rfl⟩ | ⟨t, m, bt, ne, _, rfl⟩
        · exact ⟨g, db, .inl m⟩
        · exact ⟨g, db, .inr ⟨m, bt, ne⟩⟩
      · unfold slotB at h2
        unfold NmO
        split at h2
        · rename_i e1
          rw [e1]; trivial
        · rename_i e1
          rw [e1]
          simp only [Bool.and_eq_true, decide_eq_true_eq] at h2
          exact ⟨by rw [F.N]; exact h2.1, by show X.env.scope.names.lookup _ = _; rw [F.sc]; exact h2.2⟩
        · cases h2
      · simp only [List.zip_cons_cons, wC] at w
        obtain ⟨m, e1, yes, no⟩ := w
        unfold exD
        exact ⟨m, e1, yes, fun z => q2 l C fs M (no z)⟩
    · cases h
/-- try, by its resolved clauses -/
theorem gs_tryC (F : Fit T c X Γ) {l : Sl} {body : List Stmt} {h0 : ExceptHandler} {hds : List ExceptHandler} {cs : List IC} {cvs : List Value} {pos : Pos} (hs : X.stack = X.env :: X.outer) (hf : X.env.frame = some X.env.locals) (hc : ckC c cs (h0 :: hds) = true) (hn : Paired (fun (ic : IC) cv => ∃ d, NmC (cof X) ic.cls d cv) cs cvs)
    (hb : ∀ (pn : List (Addr × Obj)) (xe : Value → Shared → Prop), PassesOwn (model X.prog X.w) X.A X.env xe → GB (X.tr pn xe) T body l M { k with ex := fun l' => wC (cof X) k (cs.zip cvs) l' }) : GS X T (.Try body (h0 :: hds) [] [] pos) l M k := by
  obtain ⟨cds, q1, q2⟩ := cls_of (T := T) (k := k) F hc hn
  refine gs_try hs hf F.nd q1 fun pn xe po => ?_
  exact fun σ B H S D W tk q => hb pn xe po σ B H S D W tk ⟨q.nx, q.rt, q.bk, q.ct, fun σ' l' C fs M' B' H' dx gs g S' hx r z => q.ex σ' l' C fs M' B' H' dx gs g S' hx r (q2 l' C fs M' z)⟩
end
end Wx
set_option Elab.async false
set_option linter.all false
set_option maxRecDepth 100000
set_option maxHeartbeats 8000000
/-! Wx, part 10: soundness of what resolved statements ask. -/
namespace Wx
open PySem L2 Fx PySem.Spec PyProof.Rows
section
variable {T : Tb} {Γ : Gm}
theorem swap_other {ts : List Expr} {k : Nat} {p : Pos} {e : Expr} {env : Env} (h : (match e with | .Tuple _ _ _ => false | _ => true) = true) : swappedStores [.Tuple ts k p] e env = pure none := by
  cases e <;> first | rfl | cases h
theorem sole_tup {ts : List Expr} {k : Nat} {p : Pos} {e : Expr} {n : Nat} {env : Env} : swapsWithSole [.Tuple ts k p] e n env = pure false := by
  cases e <;> rfl
theorem swaps_attr {o e : Expr} {f : Str} {p : Pos} {env : Env} (n : Nat) : swapsWith e (some (.Attribute o f p)) n env = pure false := by
  cases e <;> rfl
theorem tgB_tup {c : Ck} {is : List Nat} {ts : List Expr} {k : Nat} {p : Pos} (h : tgEach c is ts = true) (hn : is.length ≠ 1) : tgB c is (.Tuple ts k p) = true := by
  unfold tgB
  split
  · exact absurd rfl hn
  · exact h
theorem SdR.all {K : PySem.W.Frag} {B : Hp} : ∀ {is : List Nat} {ds : List D} {vs : List V} {l : Sl} {σ : L2.St}, SdR K B l σ → RpL K B ds vs → is.length = ds.length → ∃ σ', SdR K B (setAll l is ds) σ'
  | is, ds, vs, l, σ, S, r, h => by
    have : ∀ (is : List Nat) (ds : List D) (vs : List V) (l : Sl) (σ : L2.St), SdR K B l σ → RpL K B ds vs → ∃ σ', SdR K B (setAll l is ds) σ' := by
      intro is
      induction is with
      | nil => intro ds vs l σ S r; exact ⟨σ, by unfold setAll; exact S⟩
      | cons i is ih =>
        intro ds vs l σ S r
        cases ds with
        | nil => exact ⟨σ, by unfold setAll; exact S⟩
        | cons d ds =>
          simp only [RpL] at r
          obtain ⟨v, t, rfl, r1, r2⟩ := r
          unfold setAll
          exact ih ds t _ _ (S.set r1) r2
    exact this is ds vs l σ S r
theorem gs_par2 {c : Ck} {X : Cx} (F : Fit T c X Γ) (hk : X.env.scope.kind = .function) {i j : Nat} {x y : Str} {px py pt pt2 pos : Pos} {kt k2 : Nat} {vs : List Expr} {l : Sl} {M : Mem} {k : Kt} (h : parB c [i, j] [.Name x px, .Name y py] vs = true)
    (hl : GL X T vs l M (fun ds M1 => ds.length = 2 ∧ k.nx (setAll l [i, j] ds) M1) (k.ex l)) : GS X T (.Assign [.Tuple [.Name x px, .Name y py] kt pt] (.Tuple vs k2 pt2) pos) l M k := by
  unfold parB at h
  simp only [Bool.and_eq_true, decide_eq_true_eq, Bool.not_eq_true'] at h
  obtain ⟨⟨⟨⟨⟨⟨⟨⟨⟨⟨h1, h2⟩, h3⟩, h4⟩, h5⟩, h6⟩, c1⟩, c2⟩, c3⟩, c4⟩, c5⟩ := h
  have hw : swappedStores [.Tuple [.Name x px, .Name y py] kt pt] (.Tuple vs k2 pt2) X.env = pure (some [x, y]) := by
    rw [sw_eq hk, F.sc, c1, c2, c3, c4, c5, h6]; rfl
  have hvs : vs.length = 2 := by
    unfold swC1 at c1
    simpa using c1
  match vs, hvs with
  | [a, b], _ =>
    exact fun σ B H S D W tk q => RS.of (ps_par F.calm F.nd (by rw [F.N]; exact h2) (by rw [F.N]; exact h3) h1 (by rw [F.sc]; exact h4) (by rw [F.sc]; exact h5) cA hw sole_tup) (hl σ B H S _ W tk (fun us ds M1 B1 H1 g S1 r ⟨hd, z⟩ => by
      match ds, hd with
      | [d1, d2], _ =>
        obtain ⟨v, w, rfl, r1, r2⟩ := rpl2 r
        refine ⟨v, w, rfl, q.nx _ _ M1 B1 H1 g (S1.slots ((S1.sl.set r1).set r2)) ?_⟩
        unfold setAll setAll setAll at z
        exact z) q.kx)
theorem gs_par3 {c : Ck} {X : Cx} (F : Fit T c X Γ) (hk : X.env.scope.kind = .function) {i j m : Nat} {x y z : Str} {px py pz pt pt2 pos : Pos} {kt k2 : Nat} {vs : List Expr} {l : Sl} {M : Mem} {k : Kt} (h : parB c [i, j, m] [.Name x px, .Name y py, .Name z pz] vs = true)
    (hl : GL X T vs l M (fun ds M1 => ds.length = 3 ∧ k.nx (setAll l [i, j, m] ds) M1) (k.ex l)) : GS X T (.Assign [.Tuple [.Name x px, .Name y py, .Name z pz] kt pt] (.Tuple vs k2 pt2) pos) l M k := by
  unfold parB at h
  simp only [Bool.and_eq_true, decide_eq_true_eq, Bool.not_eq_true'] at h
  obtain ⟨⟨⟨⟨⟨⟨⟨⟨⟨⟨⟨⟨⟨⟨h1, h1'⟩, h1''⟩, h2⟩, h3⟩, h3'⟩, h4⟩, h5⟩, h5'⟩, h6⟩, c1⟩, c2⟩, c3⟩, c4⟩, c5⟩ := h
  have hw : swappedStores [.Tuple [.Name x px, .Name y py, .Name z pz] kt pt] (.Tuple vs k2 pt2) X.env = pure (some [x, y, z]) := by
    rw [sw_eq hk, F.sc, c1, c2, c3, c4, c5, h6]; rfl
  have hvs : vs.length = 3 := by
    unfold swC1 at c1
    simpa using c1
  match vs, hvs with
  | [a, b, d], _ =>
    exact fun σ B H S D W tk q => RS.of (ps_par3 F.calm F.nd (by rw [F.N]; exact h2) (by rw [F.N]; exact h3) (by rw [F.N]; exact h3') h1 h1' h1'' (by rw [F.sc]; exact h4) (by rw [F.sc]; exact h5) (by rw [F.sc]; exact h5') cA hw sole_tup) (hl σ B H S _ W tk (fun us ds M1 B1 H1 g S1 r ⟨hd, z⟩ => by
      match ds, hd with
      | [d1, d2, d3], _ =>
        obtain ⟨v, w, u, rfl, r1, r2, r3⟩ := rpl3 r
        refine ⟨v, w, u, rfl, q.nx _ _ M1 B1 H1 g (S1.slots (((S1.sl.set r1).set r2).set r3)) ?_⟩
        unfold setAll setAll setAll setAll at z
        exact z) q.kx)
theorem gs_lc {c : Ck} {X : Cx} (F : Fit T c X Γ) (hk : X.env.scope.kind = .function) {elt : IE} {tg : List Nat} {it : IT} {ifs : List IE} {own : List (Str × Nat)} {i : Nat} {x : Str} {p pos : Pos} {e : Expr} {l : Sl} {M : Mem} {k : Kt} (h : ck c (.lc elt tg it ifs own) e = true) (hi : c.N[i]? = some x) (hs : selfB c x p e = true)
    (w : wE (cof X) T Γ (.lc elt tg it ifs own) l M (fun d M1 => k.nx (l.set i (some d)) M1) (k.ex l)) : GS X T (.Assign [.Name x p] e pos) l M k := by
  have hsw := swaps_self F hk (n := pos.line) hs
  unfold ck at h
  split at h
  · rename_i elt' tg' iter' ifs' scope pos'
    have hx : c.sc.names.lookup x = some .local := by
      unfold selfB at hs
      simp only [Bool.and_eq_true, decide_eq_true_eq] at hs
      exact hs.1.1
    simp only [Bool.and_eq_true, decide_eq_true_eq, List.all_eq_true] at h
    obtain ⟨⟨⟨⟨⟨h1, h2⟩, h3⟩, h4⟩, h5⟩, h6⟩ := h
    unfold wE at w
    have ok : BlkOk X.N X.env.scope scope own := by rw [F.N, F.sc]; exact blkOk_by h3
    have iterp : plainE iter' = true := ckI_plain h1
    have mk : ∀ (s : Shared) (H : Hp) (C : Addr) (cl : List (Str × Addr)) (fp : List Addr), Fit T { c with sc := relS scope c.sc, top := false } (X.blk s H scope (compEnvC scope cl C X.env) fp) Γ := fun s H C cl fp => F.blk s H scope cl C fp
    obtain ⟨tt, ht, core⟩ := lc_core (Q := fun d M1 => k.nx (l.set i (some d)) M1) (hts := fun s H C cl fp {_ _ _ _} w => sTs (mk s H C cl fp) ifs ifs' h6 w) (hel := fun s H C cl fp {_ _ _ _} w => sE (mk s H C cl fp) elt elt' h5 w) h4 (sI F it tg' iter' h1 w)
    exact fun σ B H S D W tk q =>
      RS.of (ps_setLc F.calm F.nd (by rw [F.N]; exact hi) (by rw [F.sc]; exact hx) hsw cI ok (fun s H C cl fp => pg_all (mk s H C cl fp) h2) ht cBE (folded_of iterp))
        (core σ B H S (fun v H1 => D.nx (σ.set i (some v)) H1) W tk (fun v d M1 B1 H1 g S1 r z => q.nx _ _ M1 B1 H1 g (S1.slots (S1.sl.set r)) z) q.kx)
  · cases h
theorem self_lc {c : Ck} {x : IE} {y : Str} {p : Pos} {e : Expr} (h : ck c x e = true) (hs : selfB c y p e = true) : ∃ elt tg it ifs own, x = .lc elt tg it ifs own := by
  unfold selfB at hs
  split at hs
  · cases x <;> first
      | exact ⟨_, _, _, _, _, rfl⟩
      | (rename_i s es; unfold ck at h; cases s <;> (simp [subs] at h); done)
      | (unfold ck at h; cases h; done)
  · cases hs
theorem Fit.tr {T : Tb} {c : Ck} {X : Cx} {Γ : Gm} (F : Fit T c X Γ) (pn : List (Addr × Obj)) (xe : Value → Shared → Prop) : Fit T c (X.tr pn xe) Γ := ⟨F.N, F.sc, F.nd, F.calm, F.us, F.bs, F.top, fun h1 h2 => let ⟨e, cd, P, m⟩ := F.lm h1 h2; ⟨e, cd, P, ⟨m.tb, m.code, m.mem, m.one, m.sc, m.cl⟩⟩, fun h pn' xe' => F.td h pn' xe', fun h pn' xe' => F.ac h pn' xe'⟩
mutual
theorem sS {c : Ck} {X : Cx} (F : Fit T c X Γ) (hk : X.env.scope.kind = .function) (po : PassesOwn (model X.prog X.w) X.A X.env X.xe) (hh : X.stack = X.env :: X.outer ∧ X.env.frame = some X.env.locals) : (x : IS) → (s : Stmt) → ckS c x s = true → ∀ {l : Sl} {M : Mem} {k : Kt}, wS (cof X) T Γ x l M k → GS X T s l M k
  | .ret e, s, h, l, M, k, w => by
    unfold ckS at h
    split at h
    · unfold wS at w
      exact gs_ret (sE F e _ h w)
    · cases h
  | .ret0, s, h, l, M, k, w => by
    unfold ckS at h
    split at h
    · unfold wS at w
      exact gs_ret0 w
    · cases h
  | .set i e, s, h, l, M, k, w => by
    unfold ckS at h
    split at h
    · rename_i x p e' pos
      rw [Bool.and_eq_true, Bool.and_eq_true, Bool.or_eq_true, Bool.or_eq_true] at h
      obtain ⟨⟨h1, h2⟩, h3⟩ := h
      unfold wS at w
      have asg : swapsWith e' (some (.Name x p)) pos.line X.env = pure false → GS X T (.Assign [.Name x p] e' pos) l M k := fun hs =>
        gs_asg (sE F e _ h2 w) (pg_one F h1) (fun d M1 z σ B H v S r Qs kk => kk _ _ (S.slots (S.sl.set r)) z) hs swap_name rfl
      rcases h3 with (h3 | h3) | h3
      · exact asg (swaps_no h3)
      · obtain ⟨elt, tg, it, ifs, own, rfl⟩ := self_lc h2 h3
        refine gs_lc F hk h2 ?_ h3 w
        unfold tg1 at h1
        simp only [Bool.and_eq_true, decide_eq_true_eq] at h1
        exact h1.1
      · exact asg (swaps_out F hk h3)
    · cases h
  | .unp is e, s, h, l, M, k, w => by
    unfold ckS at h
    split at h
    · rename_i ts k0 p e' pos
      simp only [Bool.and_eq_true, decide_eq_true_eq] at h
      obtain ⟨⟨⟨h1, h2⟩, h3⟩, h4⟩ := h
      unfold wS at w
      exact gs_asg (sE F e _ h3 w) (pg_all F (tgB_tup h1 h2)) (fun d M1 ⟨ps, z1, z2⟩ σ B H v S r Qs kk => g_all S.ex S.sl r z1 fun σ' sd _ _ => kk _ _ (S.slots sd) z2) sole_tup (swap_other h4) rfl
    · cases h
  | .par is es, s, h, l, M, k, w => by
    unfold ckS at h
    split at h
    · rename_i ts k0 p vs k2 p2 pos
      rw [Bool.and_eq_true, Bool.or_eq_true] at h
      obtain ⟨h1, h2⟩ := h
      unfold wS at w
      have gl := sA F es vs h1 w
      rcases h2 with h2 | h2
      · have h2' := h2
        unfold parB at h2'
        split at h2'
        · exact gs_par2 F hk h2 gl
        · exact gs_par3 F hk h2 gl
        · cases h2'
      · have hw := sw_none F hk (ts := ts) (vs := vs) (k := k0) (k2 := k2) (p := p) (p2 := p2) h2
        unfold parN at h2
        simp only [Bool.and_eq_true, decide_eq_true_eq] at h2
        obtain ⟨⟨⟨_, h3⟩, h4⟩, h5⟩ := h2
        refine gs_asg (Q := fun d M1 => ∃ ds, d = .tup ds ∧ ds.length = is.length ∧ k.nx (setAll l is ds) M1) (ge_tup (gl.imp fun ds M1 ⟨z1, z2⟩ => ⟨Nat.le_trans (by omega : ds.length ≤ 10) (by decide), ds, rfl, z1, z2⟩)) (pg_all F (tgB_tup h3 h4))
          (fun d M1 ⟨ds, e, z1, z2⟩ σ B H v S r Qs kk => g_all S.ex S.sl r (ps := ds) ?_ fun σ' sd _ _ => kk _ _ (S.slots sd) z2) sole_tup hw rfl
        subst e
        unfold partsOf
        split
        · rename_i q; exact absurd q h4
        · dsimp only
          rw [if_pos z1]
    · cases h
  | .drop e, s, h, l, M, k, w => by
    unfold ckS at h
    split at h
    · rw [Bool.and_eq_true] at h
      unfold wS at w
      exact gs_drop (sE F e _ h.1 w) (swaps_no h.2)
    · cases h
  | .ife d a b, s, h, l, M, k, w => by
    unfold ckS at h
    split at h
    · rw [Bool.and_eq_true, Bool.and_eq_true] at h
      obtain ⟨⟨h1, h2⟩, h3⟩ := h
      unfold wS at w
      exact gs_if ((sT F d _ h1 w).imp fun t M1 ⟨w1, w2⟩ => ⟨fun q => sB F hk po hh a _ h2 (w1 q), fun q => sB F hk po hh b _ h3 (w2 q)⟩)
    · cases h
  | .forI tg it body, s, h, l, M, k, w => by
    unfold ckS at h
    split at h
    · rw [Bool.and_eq_true, Bool.and_eq_true] at h
      obtain ⟨⟨h1, h2⟩, h3⟩ := h
      unfold wS at w
      exact gs_for po F.calm (pg_all F h2) (folded_of (ckI_plain h1)) ((sI F it _ _ h1 w).imp fun ds M1 ⟨I, i0, turn, fin⟩ => ⟨I, i0, fun i d l1 M2 hd hI => by
        obtain ⟨ps, z1, z2⟩ := turn i d l1 M2 hd hI
        exact ⟨ps, z1, sB F hk po hh body _ h3 z2⟩, fin⟩)
    · cases h
  | .whl d body, s, h, l, M, k, w => by
    unfold ckS at h
    split at h
    · rw [Bool.and_eq_true] at h
      unfold wS at w
      obtain ⟨I, ⟨m, i0⟩, turn⟩ := w
      exact gs_while po I i0 fun m l1 M1 hI => (sT F d _ h.1 (turn m l1 M1 hI)).imp fun t M2 ⟨w1, w2⟩ => ⟨fun q => sB F hk po hh body _ h.2 (w1 q), w2⟩
    · cases h
  | .fld a f e, s, h, l, M, k, w => by
    unfold ckS at h
    split at h
    · rw [Bool.and_eq_true, Bool.and_eq_true, decide_eq_true_eq] at h
      obtain ⟨⟨rfl, h1⟩, h2⟩ := h
      unfold wS at w
      exact gs_fld ((sE F e _ h2 w).imp fun d M1 w => sE F a _ h1 w) (swaps_attr _)
    · cases h
  | .raise x es, s, h, l, M, k, w => by
    unfold ckS at h
    split at h
    · rename_i es' _ _
      simp only [Bool.and_eq_true, decide_eq_true_eq] at h
      obtain ⟨⟨⟨rfl, h1⟩, h2⟩, h3⟩ := h
      obtain ⟨g1, g2⟩ := F.gl h1
      unfold wS at w
      obtain ⟨C, n, mk, ok, w⟩ := w
      have w2 := fun q => sA F es es' q w
      cases es' with
      | nil => simp at h3
      | cons e r => exact gs_raise F.calm (ok X rfl F.calm e r _ _ l M _ g1 g2 (star_of (ckL_head h2).1) ((ckL_head h2).2 _ _) (w2 h2))
    · cases h
  | .tryE body cs, s, h, l, M, k, w => by
    unfold ckS at h
    split at h
    · rw [Bool.and_eq_true] at h
      unfold wS at w
      obtain ⟨cvs, pr, w⟩ := w
      exact gs_tryC F hh.1 hh.2 h.2 pr fun pn xe po' => sB (X := X.tr pn xe) (F.tr pn xe) hk po' hh body _ h.1 w
    · cases h
  | .pass, s, h, l, M, k, w => by
    unfold ckS at h
    split at h
    · unfold wS at w
      exact gs_pass w
    · cases h
  | .brk, s, h, l, M, k, w => by
    unfold ckS at h
    split at h
    · unfold wS at w
      exact gs_brk w
    · cases h
  | .cont, s, h, l, M, k, w => by
    unfold ckS at h
    split at h
    · unfold wS at w
      exact gs_cont w
    · cases h
termination_by x => (sizeOf x, 0)
theorem sB {c : Ck} {X : Cx} (F : Fit T c X Γ) (hk : X.env.scope.kind = .function) (po : PassesOwn (model X.prog X.w) X.A X.env X.xe) (hh : X.stack = X.env :: X.outer ∧ X.env.frame = some X.env.locals) : (xs : List IS) → (ss : List Stmt) → ckB c xs ss = true → ∀ {l : Sl} {M : Mem} {k : Kt}, wB (cof X) T Γ xs l M k → GB X T ss l M k
  | [], ss, h, l, M, k, w => by
    unfold ckB at h
    split at h
    · unfold wB at w
      exact gb_nil w
    · cases h
  | x :: xs, ss, h, l, M, k, w => by
    unfold ckB at h
    split at h
    · rw [Bool.and_eq_true] at h
      unfold wB at w
      refine gb_cons (gs_imp (sS F hk po hh x _ h.1 w) (fun l' M' z => sB F hk po hh xs _ h.2 z) (fun _ _ z => z) (fun _ _ z => z) (fun _ _ z => z) (fun _ _ _ _ z => z))
    · cases h
termination_by xs => (sizeOf xs, 0)
end
end
end Wx
set_option Elab.async false
set_option linter.all false
set_option maxRecDepth 100000
set_option maxHeartbeats 8000000
/-! Wx, part 11: defs and their promises. -/
namespace Wx
open PySem L2 Fx PySem.Spec PyProof.Rows
abbrev Spec := List D → Mem → PD → PX → Prop

/-! ### what is handed back: things forgotten, lists shared -/
inductive Fz : Mem → D → Mem → D → Prop
  | refl {M : Mem} {d : D} : Fz M d M d
  | sub {M M' M2 : Mem} {d d' : D} (h : Fz M d M' d') (s : M2.Sublist M') : Fz M d M2 d'
  | lst {M M' : Mem} {d : D} {p : Addr} {ds : List D} (h : Fz M d M' (.ref p)) (e : M'.at p = some (.lst ds)) : Fz M d (M'.filter fun q => !(q.1 == p)) (.lst ds)
  | obj {M M' : Mem} {d : D} {p C : Addr} {fs : List (Str × D)} (h : Fz M d M' (.ref p)) (e : M'.at p = some (.ins C fs)) : Fz M d (M'.filter fun q => !(q.1 == p)) (.obj C fs)
def fzQ (Q : PD) : PD := fun d M => ∃ M' d', Fz M d M' d' ∧ Q d' M'
theorem sub_at : ∀ {M M2 : Mem}, M2.Sublist M → M.ks.Nodup → ∀ {p : Addr} {o : MO}, M2.at p = some o → M.at p = some o
  | _, _, .slnil, _, _, _, h => h
  | _, _, .cons a s, nd, p, o, h => by
    have nd' := List.nodup_cons.mp nd
    have h1 := sub_at s nd'.2 h
    have hp := at_ks h1
    show List.lookup p (a :: _) = _
    have np : p ≠ a.1 := fun z => nd'.1 (by rw [z] at hp; exact hp)
    rw [List.lookup_cons, beq_eq_false_iff_ne.mpr np]
    exact h1
  | _, _, .cons₂ a s, nd, p, o, h => by
    have nd' := List.nodup_cons.mp nd
    have h : List.lookup p (a :: _) = some o := h
    show List.lookup p (a :: _) = _
    rw [List.lookup_cons] at h ⊢
    by_cases e : p = a.1
    · rw [e, beq_self_eq_true] at h ⊢; exact h
    · rw [beq_eq_false_iff_ne.mpr e] at h ⊢
      exact sub_at s nd'.2 h
section
variable {K : PySem.W.Frag} {T : Tb} {l : Sl} {M M' : Mem} {σ : L2.St} {B H : Hp}
theorem StR.sub (S : StR K T l M σ B H) (s : M'.Sublist M) : StR K T l M' σ B H := ⟨S.ex, S.nt, S.sl, ⟨S.mm.nd.sublist (s.map _), fun p o h => S.mm.at_ p o (sub_at s S.mm.nd h)⟩, S.tb⟩
theorem fz_one {M' : Mem} {B' : Hp} {p : Addr} {u : HO} {d2 : D} (x : Ex B B') (S' : StR K T l M' σ B' H) (hb : B' p = none) (hv : H p = some u) (nu : ∀ ps, u ≠ .tbl ps) (r2 : Rp K (upd B' p u) d2 (.ref p)) (hp : p ∈ M'.ks) (k1 : ∀ p ∈ M'.ks, p ∈ M.ks) (k2 : ∀ a, B' a ≠ B a → a ∈ M.ks) :
    ∃ B2, Ex B B2 ∧ StR K T l (M'.filter fun q => !(q.1 == p)) σ B2 H ∧ Rp K B2 d2 (.ref p) ∧ (∀ q ∈ Mem.ks (M'.filter fun q => !(q.1 == p)), q ∈ M.ks) ∧ ∀ a, B2 a ≠ B a → a ∈ M.ks := by
  have s0 : (M'.filter fun q => !(q.1 == p)).Sublist M' := List.filter_sublist
  have np : p ∉ Mem.ks (M'.filter fun q => !(q.1 == p)) := fun h => by
    obtain ⟨q, h1, h2⟩ := List.mem_map.mp h
    have h3 := (List.mem_filter.mp h1).2
    rw [h2] at h3
    simp at h3
  refine ⟨upd B' p u, x.trans (Ex.new hb), (S'.sub s0).share hb np hv nu, r2, fun q hq => k1 q ((s0.map _).subset hq), fun a ha => ?_⟩
  by_cases z : a = p
  · rw [z]; exact k1 p hp
  · exact k2 a fun q => ha ((upd_ne z).trans q)
theorem Fz.ok {d d' : D} (f : Fz M d M' d') : ∀ {v : V}, StR K T l M σ B H → Rp K B d v → ∃ B', Ex B B' ∧ StR K T l M' σ B' H ∧ Rp K B' d' v ∧ (∀ p ∈ M'.ks, p ∈ M.ks) ∧ ∀ a, B' a ≠ B a → a ∈ M.ks := by
  induction f with
  | refl => exact fun S r => ⟨B, Ex.refl B, S, r, fun _ h => h, fun a h => absurd rfl h⟩
  | sub f s ih =>
    intro v S r
    obtain ⟨B', e, S', r', k1, k2⟩ := ih S r
    exact ⟨B', e, S'.sub s, r', fun p hp => k1 p ((s.map _).subset hp), k2⟩
  | lst f e ih =>
    rename_i M' d' p ds
    intro v S r
    obtain ⟨B', x, S', r', k1, k2⟩ := ih S r
    obtain ⟨hb, vs, hv, rv⟩ := S'.mm.at_ p _ e
    have ev : v = .ref p := by simpa only [Rp] using r'
    subst ev
    exact fz_one (d2 := .lst ds) x S' hb hv (fun _ z => nomatch z) (Rp.lst.mpr ⟨p, vs, rfl, upd_same, rv.mono (Ex.new hb)⟩) (at_ks e) k1 k2
  | obj f e ih =>
    rename_i M' d' p C fs
    intro v S r
    obtain ⟨B', x, S', r', k1, k2⟩ := ih S r
    obtain ⟨hb, dx, gs, hv, rv⟩ := S'.mm.at_ p _ e
    have ev : v = .ref p := by simpa only [Rp] using r'
    subst ev
    exact fz_one (d2 := .obj C fs) x S' hb hv (fun _ z => nomatch z) (Rp.obj.mpr ⟨p, dx, gs, rfl, upd_same, rpfN (fun a o h _ => Ex.new hb a o h) rv⟩) (at_ks e) k1 k2
theorem Go.fz {M0 : Mem} {B0 H0 B' : Hp} (g : Go M0 B0 H0 M B H) (e : Ex B B') (k1 : ∀ p ∈ M'.ks, p ∈ M.ks) (k2 : ∀ a, B' a ≠ B a → a ∈ M.ks) : Go M0 B0 H0 M' B' H := by
  refine ⟨g.b.trans e, g.h, fun a o h1 h2 h3 h4 => ?_, fun a h1 h2 o h3 => g.fr a (k1 a h1) h2 o h3⟩
  by_cases z : B' a = B a
  · rw [z]; exact g.nw a o h1 h2 h3 h4
  · obtain ⟨ps, e⟩ := g.fr a (k2 a z) h3 o h1
    exact absurd e (h4 ps)
end

/-! ### promises -/
def spG (K : PySem.W.Frag) (T : Tb) (sp : Spec) : Sp := fun vs H Qv Ev => ∃ ds M B, RpL K B ds vs ∧ StR K T [] M [] B H ∧ ∃ Q E, sp ds M Q E ∧
  (∀ v d M' B' H', Go M B H M' B' H' → StR K T [] M' [] B' H' → Rp K B' d v → Q d M' → Qv v H') ∧
  (∀ C fs M' B' H' dx gs, Go M B H M' B' H' → StR K T [] M' [] B' H' → H' dx = some (.xd gs) → RpF K B' fs gs → E C fs M' → Ev (.ref C) (some dx) H')
/-- the def at f keeps sp, by at most level k -/
abbrev FnX (P : Program) (w : World) (K : PySem.W.Frag) (mg : Str → Option Value) (base : Heap) (T : Tb) (k : Nat) (f : Addr) (fd : FuncData) (ps : List Str) (sp : Spec) : Prop := FnG P w K mg base (L2.CX P w) k f fd ps (spG K T sp)
theorem StR.none {K : PySem.W.Frag} {T : Tb} {l : Sl} {M : Mem} {σ : L2.St} {B H : Hp} (S : StR K T l M σ B H) : StR K T [] M [] B H := S.slots ⟨rfl, fun i d h => by simp at h⟩
section
variable {X : Cx} {T : Tb} {k : Nat} {f : Addr} {fd : FuncData} {ps : List Str} {sp : Spec} {ds dds : List D} {dvs : List V} {dus : List Value} {M : Mem} {Q : PD} {E : PX} {l : Sl}
/-- the callee runs, here or a little deeper -/
theorem run_X {A' : Around} (F : FnX X.prog X.w X.K X.mg X.base T k f fd ps sp) (hr : Room k A') (hG : A'.guards = some []) (hfr : A'.frames = X.A.frames) (hb : Binds X.K fd ps dus) (hd : Vals dvs dus) (hdd : ∀ B : Hp, RpL X.K B dds dvs) (h : sp (ds ++ dds) M Q E) :
    CV X T A' (.ref f) ds l M Q E := fun pins s σ B H vs us I S r rv Qv W tk kn kx => by
  have e0 : Env0 X.prog X.w X.K X.mg X.base A' X.stack s H := by
    have e := I.env0
    exact ⟨hfr.trans e.frames, e.mod, e.bs, e.bsz, e.funs, e.frf, e.hok, e.bare⟩
  have want : spG X.K T sp (vs ++ dvs) H Qv (fun cls d H' => W cls d σ H') := ⟨ds ++ dds, M, B, r.append (hdd B), S.none, Q, E, h, fun v d M' B' H' g S' r' q => kn v d M' B' H' g (S'.slots (S.sl.mono g.b)) r' q,
    fun C fs M' B' H' dx gs g S' hx r' q => kx C fs M' B' H' dx gs g (S'.slots (S.sl.mono g.b)) hx r' q⟩
  have rel : Vals (vs ++ dvs) (us ++ dus) := rv.append hd
  have hl : (us ++ dus).length = ps.length := rel.length.symm.trans (F.len _ _ _ _ want)
  refine wpAny_call (codeAny_mono (F.run A' X.stack s H ⟨us, []⟩ (us ++ dus) (vs ++ dvs) Qv _ hr hG e0 (hb s us I.kIn hl) rel want) fun res s' hq => ?_)
  match res, hq with
  | .error e, hq => exact tk e s' (XE.of_call I (fun _ _ _ h => h) hq)
  | .ok (.ret u), hq => exact I.after hq
  | .ok .next, hq => exact hq.elim
  | .ok .brk, hq => exact hq.elim
  | .ok .cont, hq => exact hq.elim
end
/-- slots at the entry -/
def slots0 (n : Nat) (ds : List D) : Sl := ds.map some ++ List.replicate (n - ds.length) none
theorem sd_start {K : PySem.W.Frag} {B : Hp} {N : List Str} {ds : List D} {vs : List V} (r : RpL K B ds vs) (h : ds.length ≤ N.length) : SdR K B (slots0 N.length ds) (L2.start N vs) := by
  have hl := r.length
  unfold slots0 L2.start
  refine ⟨by simp only [List.length_append, List.length_map, List.length_replicate]; omega, fun i d hd => ?_⟩
  by_cases hi : i < ds.length
  · rw [List.getElem?_append_left (by rw [List.length_map]; exact hi), List.getElem?_map] at hd
    obtain ⟨d', h1, h2⟩ := Option.map_eq_some_iff.mp hd
    cases h2
    obtain ⟨v, h3, h4⟩ := r.at h1
    exact ⟨v, by rw [List.getElem?_append_left (by rw [List.length_map]; omega), List.getElem?_map, h3]; rfl, h4⟩
  · rw [List.getElem?_append_right (by rw [List.length_map]; omega), List.getElem?_replicate] at hd
    split at hd <;> cases hd
section
variable {P : Program} {w : World} {K : PySem.W.Frag} {mg : Str → Option Value} {base : Heap} {T : Tb} {k : Nat} {f : Addr} {fd : FuncData} {ps : List Str} {sp : Spec} {Γ : Nat → Value} {us bs : List Str}
/-- the core of a def's context -/
structure CoOk (Y : Co) (P : Program) (w : World) (K : PySem.W.Frag) (mg : Str → Option Value) (base : Heap) (k : Nat) : Prop where
  prog : Y.prog = P
  w : Y.w = w
  K : Y.K = K
  mg : Y.mg = mg
  base : Y.base = base
  room : Room k Y.A
  guards : Y.A.guards = some []
structure Gl' (K : PySem.W.Frag) (mg : Str → Option Value) (Γ : Nat → Value) (us bs : List Str) : Prop where
  us : ∀ i x, us[i]? = some x → mg x = some (Γ i) ∧ PySem.W.keepIn K (Γ i) = true
  bs : ∀ x ∈ bs, mg x = none
def kBody (Q : PD) (E : PX) : Kt := { nx := fun _ M' => fzQ Q .non M', rt := fzQ Q, bk := fun _ _ => False, ct := fun _ _ => False, ex := fun _ => E }
/-- a body that makes and calls no lambda -/
def gm0 (v : Nat → Value) : Gm := ⟨v, ⟨⟨[], ⟨.function, [], false, false, []⟩, [], [], false⟩, []⟩, False, fun _ _ _ _ _ _ => False, fun _ _ _ _ => False, fun _ _ _ _ _ => False⟩
theorem fit0 {c : Ck} {X : Cx} (hN : X.N = c.N) (hs : X.env.scope = c.sc) (nd : X.N.Nodup) (calm : X.calm = true) (hu : ∀ i x, c.us[i]? = some x → X.mg x = some (Γ i) ∧ PySem.W.keepIn X.K (Γ i) = true) (hb : ∀ x ∈ c.bs, X.mg x = none) (top : c.top = true → ∀ x, X.fn x = true) : Fit T c X (gm0 Γ) :=
  ⟨hN, hs, nd, calm, hu, hb, top, fun _ z => z.elim, fun _ pn xe i x hi l M p b sn Q E _ h => (h []).elim, fun _ pn xe i x p l M Q E pos pos' _ _ _ _ _ h => h.elim⟩
/-- THE RULE for a def: by what its resolved body asks -/
theorem fnX_of {x qual : Str} {st : Stmt} {N : List Str} {ir : List IS} (F : FunA K x qual st f fd) (S : FnScope N ps (defScope st)) (G : Gl' K mg Γ us bs) (hck : ckB ⟨N, defScope st, us, bs, true⟩ ir (defBody st) = true) (len : ∀ ds M Q E, sp ds M Q E → ds.length = ps.length)
    (hbody : ∀ (Y : Co) ds M Q E, CoOk Y P w K mg base k → sp ds M Q E → wB Y T (gm0 Γ) ir (slots0 N.length ds) M (kBody Q E)) : FnX P w K mg base T (k + 1) f fd ps sp := by
  obtain ⟨oc, od, dV, kV, doc, pm, an, cdv, ct, osl, rfl, lk, hcd⟩ := F.ex
  have len' : ∀ vs H Q E, spG K T sp vs H Q E → vs.length = ps.length := fun vs H Q E ⟨ds, M, B, r, _, _, _, h, _⟩ => r.length.symm.trans (len _ _ _ _ h)
  refine fnG_of lk hcd S len' fun A outer s H vs Qv Ev hr hG ⟨ds, M, B, r, S0, Q, E, hsp, kn, kx⟩ => ?_
  have hw := hbody (cof (cxOf (L2.CX P w) P w K mg base N qual (defScope st) f cdv A outer s H Ev)) ds M Q E ⟨rfl, rfl, rfl, rfl, rfl, hr, hG⟩ hsp
  have fit : Fit T ⟨N, defScope st, us, bs, true⟩ (cxOf (L2.CX P w) P w K mg base N qual (defScope st) f cdv A outer s H Ev) (gm0 Γ) := fit0 rfl rfl S.nd rfl G.us G.bs fun _ _ => rfl
  have hN : ds.length ≤ N.length := by
    rw [len _ _ _ _ hsp, ← S.pre, List.length_take]
    exact Nat.min_le_right _ _
  have tk : Takes (cxOf (L2.CX P w) P w K mg base N qual (defScope st) f cdv A outer s H Ev) (fun cls d _ H' => Ev cls d H') := takes_of (E := Ev) rfl rfl rfl rfl
  refine sB fit S.kind (passes_of rfl) ⟨rfl, rfl⟩ ir (defBody st) hck hw (L2.start N vs) B H (S0.slots (sd_start r hN)) _ _ tk ?_
  have fin : ∀ {v : V} {d : D} {σ' : L2.St} {l' : Sl} {M' : Mem} {B' H' : Hp}, Go M B H M' B' H' → StR K T l' M' σ' B' H' → Rp K B' d v → fzQ Q d M' → Qv v H' := fun {v d σ' l' M' B' H'} g S' r' ⟨M2, d2, fz, q⟩ => by
    obtain ⟨B2, e, S2, r2, k1, k2⟩ := fz.ok S' r'
    exact kn v d2 M2 B2 H' (g.fz e k1 k2) S2.none r2 q
  exact ⟨fun σ' l' M' B' H' g S' z => fin g S' (by simp only [Rp]) z, fun v d σ' l' M' B' H' g S' r' z => fin g S' r' z, fun _ _ _ _ _ _ _ z => z.elim, fun _ _ _ _ _ _ _ z => z.elim,
    fun σ' l' C fs M' B' H' dx gs g S' hx r' z => kx C fs M' B' H' dx gs g S'.none hx r' z⟩
/-- a call by its name's number -/
theorem cc_fn {Y : Co} {j : Nat} {ds dds : List D} {dvs : List V} {dus : List Value} {M : Mem} {Q : PD} {E : PX} (C : CoOk Y P w K mg base k) (F : FnX P w K mg base T j f fd ps sp) (hj : j ≤ k) (hb : Binds K fd ps dus) (hd : Vals dvs dus) (hdd : ∀ B : Hp, RpL K B dds dvs) (h : sp (ds ++ dds) M Q E) :
    CC Y T (.ref f) ds M Q E := fun X l hY hc => by
  obtain ⟨rfl, rfl, rfl, rfl, rfl, hr, hG⟩ := C
  subst hY
  exact run_X F (hr.mono hj) hG rfl hb hd hdd h
theorem cc_fn0 {Y : Co} {j : Nat} {ds : List D} {M : Mem} {Q : PD} {E : PX} (C : CoOk Y P w K mg base k) (F : FnX P w K mg base T j f fd ps sp) (hj : j ≤ k) (hb : Binds K fd ps []) (h : sp ds M Q E) : CC Y T (.ref f) ds M Q E :=
  cc_fn C F hj hb .nil (fun _ => RpL.nil) (by rw [List.append_nil]; exact h)
/-- a def by an older promise -/
theorem cc_old {Y : Co} {j : Nat} {pre : List D → Prop} {post : List D → D → Prop} {ds : List D} {M : Mem} {Q : PD} {E : PX} (C : CoOk Y P w K mg base k) (F : FnOk P w K mg base CX0 j f fd ps (spD K pre post)) (hj : j ≤ k) (hb : Binds K fd ps []) (hp : pre ds) (hq : ∀ d, post ds d → Q d M) :
    CC Y T (.ref f) ds M Q E := fun X l hY hc pins s σ B H vs us I S r rv Qv W tk kn kx => by
  obtain ⟨rfl, rfl, rfl, rfl, rfl, hr, hG⟩ := C
  subst hY
  refine wpAny_mono (runD (A' := X.A) F (hr.mono hj) rfl hb I rv S.ex r hp) (fun u s' ⟨v, d, B', H', I', r', st, q, z⟩ => ?_) fun _ _ e => e
  obtain ⟨g, S'⟩ := S.step st
  exact ⟨v, H', I', r', kn v d M _ H' g S' (rpN nt_ex z) (hq d q)⟩
end
end Wx
set_option Elab.async false
set_option linter.all false
set_option maxRecDepth 100000
set_option maxHeartbeats 3200000
/-! Fx, part 15: set(a list or tuple of keys of any kind), sorted(a set of texts). -/
namespace Fx
open PySem L2
open PySem.Spec PyProof.Rows
section
variable {P : Program} {w : World} {κ : Type} [DecidableEq κ] {knd : PySem.KeyKind P w κ}
/-- no key is told by both -/
def Apart (knd : PySem.KeyKind P w κ) (x y : Int × Value) : Prop := ∀ k, ¬ (knd.is k x.2 = true ∧ knd.is k y.2 = true)
theorem Apart.symm {x y : Int × Value} (h : Apart knd x y) : Apart knd y x := fun k ⟨p, q⟩ => h k ⟨q, p⟩
/-- a set's table: its members by S -/
structure Tbl (knd : PySem.KeyKind P w κ) (S : κ → Bool) (es : Array (Int × Value)) (t : SetTable) : Prop where
  el : ElemsOf knd es.toList
  ap : es.toList.Pairwise (Apart knd)
  me : ∀ k, S k = true ↔ ∃ e ∈ es.toList, knd.is k e.2 = true
  sm : es.size < scanBound
  ft : t.fits es.size = true
  rs : Ris t.place.toList
  ld : w.params.followText "set-order" = true ∨ t.led = true
def GSet (knd : PySem.KeyKind P w κ) (h : Heap) (a : Addr) (S : κ → Bool) (n : Nat) : Prop :=
  ∃ o es ep t, h.get? a = some o ∧ o.ExactSet ∧ o.data = .set es ep t ∧ Tbl knd S es t ∧ es.size = n
variable {A : Around} {E : Value → Shared → Prop} {s : Shared} {a : Addr} {S S' : κ → Bool} {n : Nat}
theorem GSet.keep {h h' : Heap} (R : GSet knd h a S n) (k : ∀ o, h.get? a = some o → h'.get? a = some o) : GSet knd h' a S n := by
  obtain ⟨o, es, ep, t, ho, z⟩ := R
  exact ⟨o, es, ep, t, k o ho, z⟩
theorem Tbl.congr {es : Array (Int × Value)} {t : SetTable} (T : Tbl knd S es t) (e : ∀ k, S' k = S k) : Tbl knd S' es t := by
  rw [show S' = S from funext e]; exact T
theorem GSet.congr {h : Heap} (R : GSet knd h a S n) (e : ∀ k, S' k = S k) : GSet knd h a S' n := by
  obtain ⟨o, es, ep, t, ho, hx, hd, T, hn⟩ := R
  exact ⟨o, es, ep, t, ho, hx, hd, T.congr e, hn⟩
/-- the same entries in another sequence -/
theorem Tbl.perm {es es' : Array (Int × Value)} {t t' : SetTable} (T : Tbl knd S es t) (p : es'.toList.Perm es.toList) (hf : t'.fits es'.size = true) (hr : Ris t'.place.toList) (hl : t'.led = t.led) : Tbl knd S es' t' :=
  ⟨fun e he => T.el e (p.mem_iff.mp he), (p.pairwise_iff fun {x y} h => h.symm).mpr T.ap, fun k => (T.me k).trans ⟨fun ⟨e, he, q⟩ => ⟨e, p.mem_iff.mpr he, q⟩, fun ⟨e, he, q⟩ => ⟨e, p.mem_iff.mp he, q⟩⟩,
    by have h := p.length_eq; rw [Array.length_toList, Array.length_toList] at h; rw [h]; exact T.sm, hf, hr, T.ld.imp id fun z => by rw [hl]; exact z⟩
/-- the table is stored, then laid anew if it is too full -/
theorem gset_store {g : Bool → Sem Unit} (hg : ∀ (b : Bool) (s1 : Shared) (Q1 : Unit → Shared → Prop), Q1 () s1 → wpAny (model P w) A (g b) Q1 E s1)
    {o : Obj} {es0 es : Array (Int × Value)} {ep : Nat} {t0 t : SetTable} (ho : s.heap.get? a = some o) (hx : o.ExactSet) (hd : o.data = .set es0 ep t0) (T : Tbl knd S es t) {wd : Bool} {R : Option Bool → Shared → Prop}
    (hR : ∀ h1, Heap.SameBut a s.heap h1 → GSet knd h1 a S es.size → R (some true) { s with heap := h1 }) :
    wpAny (model P w) A (do
        storeSet a es t
        if (!wd && t.tooFull) = true then do
            g (relayAll t es (SetTable.grown es.size)).2.2
            storeSet a (relayAll t es (SetTable.grown es.size)).1 (relayAll t es (SetTable.grown es.size)).2.1
            pure (some true)
          else pure (some true)) R E s := by
  have first : (s.heap.update a (Obj.putSet es t)).get? a = some { o with data := .set es (ep + 1) t } := store_at ho hd
  have but : Heap.SameBut a s.heap (s.heap.update a (Obj.putSet es t)) := Heap.SameBut.update s.heap a _
  refine wpAny_bind (wpAny_storeSet_of ho hd ?_ (fits_of_scanBound T.sm))
  by_cases full : (!wd && t.tooFull) = true
  · rw [if_pos full]
    have p := relayAll_perm t es (SetTable.grown es.size)
    have f := relayAll_fits t es (SetTable.grown es.size)
    have r := relayAll_ris t es (SetTable.grown es.size)
    have l := relayAll_led t es (SetTable.grown es.size)
    revert p f r l
    rcases relayAll t es (SetTable.grown es.size) with ⟨es1, t1, gave⟩
    intro p f r l
    have T1 : Tbl knd S es1 t1 := T.perm p f r l
    have sz : es1.size = es.size := by have h := p.length_eq; rwa [Array.length_toList, Array.length_toList] at h
    refine wpAny_bind (hg _ _ _ (wpAny_bind (wpAny_storeSet_of first rfl ?_ (fits_of_scanBound T1.sm))))
    exact wpAny_pure (hR _ (but.trans (Heap.SameBut.update _ a _)) ⟨_, es1, _, t1, store_at first rfl, hx, rfl, T1, sz⟩)
  · rw [if_neg full]
    exact wpAny_pure (hR _ but ⟨_, es, _, t, first, hx, rfl, T, rfl⟩)
/-- a key is added -/
theorem gset_add {k : κ} {v : Value} {Q : Bool → Shared → Prop} (hk : knd.is k v = true) (hv : v.scannable = true) (R : GSet knd s.heap a S n) (room : n + 1 < scanBound)
    (q : ∀ h1 c, Heap.SameBut a s.heap h1 → c ≤ n + 1 → GSet knd h1 a (fun j => S j || decide (j = k)) c → Q (!S k) { s with heap := h1 }) :
    wpAny (model P w) A (setAddHashed a v (knd.hash k)) Q E s := by
  obtain ⟨o, es, ep, t, ho, hx, hd, T, hn⟩ := R
  unfold setAddHashed setAddHashedIn
  refine wpAny_holding (wpAny_bind (wpAny_setState_of ho hd T.ft ?_))
  dsimp only
  rw [byScan_of hv T.sm T.el, if_pos rfl]
  unfold setAddByScan
  refine wpAny_bind (wpAny_bind (wpAny_rule (wpAny_bind (wpAny_setScan_of hk ho hd T.ft T.el ?_))))
  rcases hfi : List.findIdx? (fun e => knd.is k e.2) es.toList with _ | j
  · rw [hfi]
    dsimp only
    have no : ∀ e ∈ es.toList, knd.is k e.2 = false := fun e he => by simpa using List.findIdx?_eq_none_iff.mp hfi e he
    have hS : S k = false := by
      cases z : S k with
      | false => rfl
      | true => obtain ⟨e, he, y⟩ := (T.me k).mp z; rw [no e he] at y; cases y
    have p := layNew_perm t es (knd.hash k) v
    have f := layNew_fits t es (knd.hash k) v
    have r := layNew_ris t es (knd.hash k) v T.rs
    have l := layNew_led t es (knd.hash k) v
    revert p f r l
    rcases layNew t es (knd.hash k) v with ⟨es1, t1, wd, gave⟩
    intro p f r l
    dsimp only at p f r l ⊢
    rw [Array.toList_push] at p
    have pc : es1.toList.Perm ((knd.hash k, v) :: es.toList) := p.trans (List.perm_append_singleton _ _)
    have sz : es1.size = n + 1 := by have h := pc.length_eq; rw [Array.length_toList, List.length_cons, Array.length_toList, hn] at h; exact h
    have T1 : ∀ {t2 : SetTable}, t2.fits es1.size = true → Ris t2.place.toList → t2.led = t.led → Tbl knd (fun j => S j || decide (j = k)) es1 t2 := fun f2 r2 l2 => by
      refine ⟨fun e he => ?_, (pc.pairwise_iff fun {x y} h => h.symm).mpr (List.pairwise_cons.mpr ⟨fun e he i ⟨h1, h2⟩ => ?_, T.ap⟩), fun i => ?_, by rw [sz]; exact room, f2, r2, T.ld.imp id fun z => by rw [l2]; exact z⟩
      · rcases List.mem_cons.mp (pc.mem_iff.mp he) with z | z
        · subst z; exact ⟨⟨k, hk, rfl⟩, hv⟩
        · exact T.el e z
      · have e1 : i = k := knd.inj v i k h1 hk
        subst e1
        rw [no e he] at h2; cases h2
      · rw [Bool.or_eq_true, decide_eq_true_eq, T.me i]
        constructor
        · rintro (⟨e, he, y⟩ | rfl)
          · exact ⟨e, pc.mem_iff.mpr (List.mem_cons_of_mem _ he), y⟩
          · exact ⟨_, pc.mem_iff.mpr List.mem_cons_self, hk⟩
        · rintro ⟨e, he, y⟩
          rcases List.mem_cons.mp (pc.mem_iff.mp he) with z | z
          · subst z; exact .inr (knd.inj v i k y hk)
          · exact .inl ⟨e, z, y⟩
    have fin : ∀ h1, Heap.SameBut a s.heap h1 → GSet knd h1 a (fun j => S j || decide (j = k)) es1.size → Q true { s with heap := h1 } := fun h1 sb z => by
      have y := q h1 es1.size sb (by rw [sz]; exact Nat.le_refl _) z
      rwa [hS] at y
    have tell : ∀ (b : Bool) {s1 : Shared} {Q1 : Unit → Shared → Prop}, Q1 () s1 → wpAny (model P w) A (match b with | true => rule "set.scan.the-table-gave-way" | false => pure ()) Q1 E s1 := fun b s1 Q1 z => by
      cases b
      · exact wpAny_pure z
      · exact wpAny_rule z
    refine wpAny_bind (tell _ ?_)
    split
    · rw [hashByValue_scannable 8 hv]
      refine wpAny_bind (wpAny_pure (gset_store (knd := knd) (fun b s1 Q1 z => ?_) ho hx hd (T1 ?_ ?_ ?_) fun h1 sb z => ?_))
      · cases b <;> first | exact wpAny_pure z | exact wpAny_rule z
      · first | (split <;> first | exact f | exact SetTable.fits_plain_off f) | exact f
      · first | (split <;> exact r) | exact r
      · first | (split <;> exact l) | exact l
      · dsimp only; exact wpAny_pure (fin h1 sb z)
    · refine wpAny_bind (wpAny_pure ?_)
      simp only [↓reduceIte]
      refine gset_store (knd := knd) (fun b s1 Q1 z => ?_) ho hx hd (T1 f r l) fun h1 sb z => ?_
      · cases b <;> first | exact wpAny_pure z | exact wpAny_rule z
      · dsimp only; exact wpAny_pure (fin h1 sb z)
  · rw [hfi]
    dsimp only
    obtain ⟨hj, pj, _⟩ := List.findIdx?_eq_some_iff_getElem.mp hfi
    have hS : S k = true := (T.me k).mpr ⟨es.toList[j], List.getElem_mem hj, pj⟩
    refine wpAny_pure (wpAny_pure ?_)
    have y := q s.heap n (Heap.SameBut.refl a s.heap) (Nat.le_succ n) ⟨o, es, ep, t, ho, hx, hd, T.congr fun i => by
      by_cases z : i = k
      · subst z; rw [hS]; rfl
      · simp [z], hn⟩
    rw [hS] at y
    exact y
end
end Fx
set_option Elab.async false
set_option linter.all false
set_option maxRecDepth 100000
set_option maxHeartbeats 3200000
/-! Fx, part 16: set(a list, a tuple of keys), sorted(a set of texts). -/
namespace Fx
open PySem L2
open PySem.Spec PyProof.Rows
section
variable {P : Program} {w : World} {κ : Type} [DecidableEq κ] {knd : PySem.KeyKind P w κ} {A : Around} {E : Value → Shared → Prop} {s : Shared}
/-- the new set's object -/
abbrev set0 (w : World) : Obj := { cls := .type "set", dict := none, data := .set #[] 0 (.fresh 0 0 (!w.params.followText "set-order")) }
theorem gset_new {h : Heap} {a : Addr} {S : κ → Bool} (ho : h.get? a = some (set0 w)) (e : ∀ k, S k = false) : GSet knd h a S 0 :=
  ⟨_, #[], 0, _, ho, ⟨rfl, rfl, rfl⟩, rfl, ⟨fun e he => by simp at he, List.Pairwise.nil, fun k => by simp [e k], by decide, by rfl, List.Pairwise.nil, by
    show _ ∨ (!w.params.followText "set-order") = true
    rcases hq : w.params.followText "set-order" with _ | _
    · exact .inr rfl
    · exact .inl rfl⟩, rfl⟩
/-- the values of an array, as keys -/
def KeysAre (knd : PySem.KeyKind P w κ) (vs : List Value) (ks : List κ) : Prop := vs.length = ks.length ∧ ∀ (i : Nat) (v : Value), vs[i]? = some v → ∃ k, ks[i]? = some k ∧ knd.is k v = true ∧ v.scannable = true
/-- what the loop of set's own __init__ does -/
theorem gset_loop {I : Addr} {fp wr : List Addr} {G : Array GenState → Array GenState → Prop} {n : Nat} {Pv : Nat → Value → Prop} {St : Nat → Shared → Prop} {R : Result → Shared → Prop}
    (W : WalksS P w A.in1 I fp wr G n Pv St) (D : Addr) (hD : D ∉ fp) (ks : List κ) (hn : n = ks.length) (hb : ks.length + 1 < scanBound) (hv : ∀ i v, Pv i v → ∃ k, ks[i]? = some k ∧ knd.is k v = true ∧ v.scannable = true) :
    ∀ (m i : Nat) (s : Shared), n - i = m → i ≤ n → St i s → (∃ c, c ≤ i ∧ GSet knd s.heap D (fun j => decide (j ∈ ks.take i)) c) →
      (∀ s1 c, Moved (D :: wr) G s s1 → c ≤ n → GSet knd s1.heap D (fun j => decide (j ∈ ks)) c → R (.ok (.ret .none)) s1) →
      codeAny (model P w) A (.builtin "set.update.loop" ⟨[.ref D, .ref I], []⟩) R s := by
  have nw : D ∉ wr := fun z => hD (W.sub _ z)
  have sub : ∀ b ∈ wr, b ∈ D :: wr := fun b z => List.mem_cons_of_mem _ z
  intro m
  induction m with
  | zero =>
    rintro i s hm hi st ⟨c, hc, T⟩ fin
    obtain rfl : i = n := by omega
    refine codeAny_builtin F.entry_set_update_loop ?_
    rw [Around.under_plainId F.plain_set_update_loop _]
    refine wpAny_bind (m := pyNext (.ref I)) (W.done s _ _ st fun s1 mv => ?_)
    rw [List.take_of_length_le (by omega)] at T
    exact wpAny_pure (fin s1 c (mv.mono sub) hc (T.keep fun o e => mv.heap D o nw e))
  | succ m ih =>
    rintro i s hm hi st ⟨c, hc, T⟩ fin
    have lt : i < n := by omega
    refine codeAny_builtin F.entry_set_update_loop ?_
    rw [Around.under_plainId F.plain_set_update_loop _]
    refine wpAny_bind (m := pyNext (.ref I)) (W.item i s _ _ lt st fun v s1 hp st1 mv => ?_)
    obtain ⟨k, hk, hi2, hs2⟩ := hv i v hp
    have T1 : GSet knd s1.heap D (fun j => decide (j ∈ ks.take i)) c := T.keep fun o e => mv.heap D o nw e
    refine wpAny_bind (m := holding [v] (setAdd D v)) (wpAny_holding ?_)
    unfold setAdd
    refine wpAny_holding (wpAny_bind (knd.pyHash (k := k) hi2 ?_))
    refine gset_add (s := { s1 with toks := s1.toks + 1 }) hi2 hs2 T1 (by omega) fun h1 c1 sb hc1 T2 => ?_
    have T3 : GSet knd h1 D (fun j => decide (j ∈ ks.take (i + 1))) c1 := T2.congr fun j => by
      rw [List.take_add_one, hk]
      simp [List.mem_append]
    refine wpAny_pure ⟨plainId_quiet F.plain_set_update_loop _, ih (i + 1) _ (by omega) lt (W.frame _ s1 _ _ st1 (Nat.le_succ _) fun b hbf o e => ?_) ⟨c1, by omega, T3⟩ fun s2 c2 mv2 hc2 T4 => ?_⟩
    · exact (sb.2 b fun z : b = D => hD (z ▸ hbf)).trans e
    · refine fin s2 c2 (Moved.trans W.gtrans ((mv.mono sub).then_heap (Nat.le_succ _) fun b o hbf e => ?_) mv2) hc2 T4
      exact (sb.2 b fun z : b = D => hbf (z ▸ List.mem_cons_self)).trans e

/-- set(a list of keys) -/
theorem gset_of_list {l : Addr} {items : Array Value} (ks : List κ) {Q : Value → Shared → Prop} (hh : A.handled = none) (hl : s.heap.IsList l items) (hk : KeysAre knd items.toList ks) (hb : ks.length + 1 < scanBound)
    (fin : ∀ (h1 : Heap) (tk c : Nat), GSet knd h1 s.heap.objs.size (fun j => decide (j ∈ ks)) c → c ≤ ks.length → (∀ b o, s.heap.get? b = some o → h1.get? b = some o) → Q (.ref s.heap.objs.size) { s with heap := h1, toks := tk }) :
    wpAny (model P w) A (call (.type "set") [.ref l]) Q E s := by
  have isz : items.size = ks.length := by have := hk.1; rwa [Array.length_toList] at this
  obtain ⟨c, tl, hmro⟩ := F.called_set.mro
  have hmade := F.called_set.made
  have hsub := F.called_set.sub
  have h1 := F.called_set.notType
  have h2 := F.called_set.canCreate
  have hct := F.typeCall_set_1 (.ref l)
  refine wpAny_call (codeAny_of_tree (show wpAny _ _ (callAny (.type "set") _) _ _ _ from wpAny_pure ⟨Code.quiet_builtin _ (by decide +kernel), codeAny_builtin F.entry_type_call ?_⟩))
  rw [Around.under_plain (weight_type_call_type "set" [.ref l] []) rfl]
  repeat (any_goals (first | assumption | wp_step))
  refine codeAny_mono (code_set_led1 (.ref l) (E := E) (Q₁ := fun obj s1 => obj = .ref s.heap.objs.size ∧ s1 = { s with heap := s.heap.push (set0 w) }) ⟨rfl, rfl⟩) fun r s1 hr => ?_
  match r, hr with
  | .error e, hr => exact hr
  | .ok .next, hr => exact hr.elim
  | .ok .brk, hr => exact hr.elim
  | .ok .cont, hr => exact hr.elim
  | .ok (.ret obj), hr =>
    obtain ⟨rfl, rfl⟩ := hr
    have hD : (s.heap.push (set0 w)).get? s.heap.objs.size = some (set0 w) := Heap.get?_push_size _ rfl
    have hT : Shared.TypeIs { s with heap := s.heap.push (set0 w) } (.ref s.heap.objs.size) "set" := ⟨_, hD, rfl⟩
    have hli := F.called_set.init.lookup
    have hbi := F.called_set.init.bind (.ref s.heap.objs.size)
    repeat (any_goals (first | assumption | wp_step))
    refine codeAny_mono (codeAny_call_builtin (R := wants (fun r s2 => r = .none ∧ ∃ h1 tk c, s2 = { s with heap := h1, toks := tk } ∧ GSet knd h1 s.heap.objs.size (fun j => decide (j ∈ ks)) c ∧ c ≤ ks.length ∧
        (∀ b o, s.heap.get? b = some o → h1.get? b = some o)) E) F.called_set.init.plain F.entry_set_init (check_set_init_1 hT ?_)) fun r2 s2 hr2 => ?_
    · obtain ⟨⟨ocls, odict, odata, oslots⟩, hol, hcl, nl, hdl⟩ := hl
      simp only at hcl hdl
      subst hcl; subst hdl
      have hol2 : (s.heap.push (set0 w)).get? l = some { cls := .type "list", dict := odict, data := .seq items nl, slots := oslots } := Heap.get?_push_of_some _ hol
      have f1 := F.sub_list_set
      have f2 := F.sub_list_frozenset
      have f3 : (Value.type "list" == Value.type "dict") = false := by decide
      have hl1 : (s.heap.push (set0 w)).IsList l items := ⟨_, hol2, rfl, nl, rfl⟩
      unfold Builtin.«set.__init__» noKeywords Builtin.Frozenset.updateFrom
      generalize hPI : pyIter = PI
      wp_walk
      subst hPI
      refine wpAny_pyIter_list hl1 (wpAny_bind (wpAny_runValue ?_))
      have lt : l < s.heap.objs.size := Heap.lt_size hol
      have hh3 : A.in1.in1.in1.handled = none := by simp [hh]
      have nI : l ≠ (s.heap.push (set0 w)).objs.size := by
        rw [Heap.size_push]; exact Nat.ne_of_lt (Nat.lt_succ_of_lt lt)
      have nF : s.heap.objs.size ∉ [(s.heap.push (set0 w)).objs.size, l] := by
        rw [Heap.size_push]
        simp only [List.mem_cons, List.not_mem_nil, or_false, not_or]
        exact ⟨Nat.ne_of_lt (Nat.lt_succ_self _), Nat.ne_of_gt lt⟩
      have hv : ∀ (i : Nat) (v : Value), items[i]? = some v → ∃ k, ks[i]? = some k ∧ knd.is k v = true ∧ v.scannable = true := fun i v z => hk.2 i v (by rw [Array.getElem?_toList]; exact z)
      refine gset_loop ((Walks.list hh3 _ l nI items).toS) s.heap.objs.size nF ks isz hb hv (items.size - 0) 0 _ (by omega) (Nat.zero_le _) ⟨⟨_, Heap.get?_push_size _ rfl, rfl, rfl⟩, hl1.push _⟩ ?start ?stop
      case start => exact ⟨0, Nat.le_refl 0, gset_new (Heap.get?_push_of_some _ hD) fun k => by simp⟩
      case stop =>
        rintro ⟨h3, g3, d3, tk3, os3⟩ c3 mv hc3 T3
        obtain rfl : g3 = s.gens := mv.gens
        obtain rfl : d3 = s.drawn := mv.drawn
        obtain rfl : os3 = s.os := mv.os
        rw [isz] at hc3
        refine wpAny_pure (wpAny_pure ⟨rfl, h3, tk3, c3, rfl, T3, hc3, fun b o e => ?_⟩)
        have lb : b < s.heap.objs.size := Heap.lt_size e
        refine mv.heap b o (fun z => ?_) (Heap.get?_push_of_some _ (Heap.get?_push_of_some _ e))
        rcases List.mem_cons.mp z with z | z
        · exact Nat.ne_of_lt lb z
        · have z := List.mem_singleton.mp z
          rw [Heap.size_push] at z
          exact Nat.ne_of_lt (Nat.lt_succ_of_lt lb) z
    · match r2, hr2 with
      | .error e, hr2 => exact hr2
      | .ok .next, hr2 => exact hr2.elim
      | .ok .brk, hr2 => exact hr2.elim
      | .ok .cont, hr2 => exact hr2.elim
      | .ok (.ret r), hr2 =>
        obtain ⟨rfl, h3, tk3, c3, rfl, T3, hc3, kp⟩ := hr2
        repeat (any_goals (first | assumption | wp_step))
        exact fin _ _ _ T3 hc3 kp

/-- set(a tuple of keys) -/
theorem gset_of_tuple {l : Addr} {items : Array Value} (ks : List κ) {Q : Value → Shared → Prop} (hh : A.handled = none) (hl : s.heap.IsTuple l items) (hk : KeysAre knd items.toList ks) (hb : ks.length + 1 < scanBound)
    (fin : ∀ (h1 : Heap) (tk c : Nat), GSet knd h1 s.heap.objs.size (fun j => decide (j ∈ ks)) c → c ≤ ks.length → (∀ b o, s.heap.get? b = some o → h1.get? b = some o) → Q (.ref s.heap.objs.size) { s with heap := h1, toks := tk }) :
    wpAny (model P w) A (call (.type "set") [.ref l]) Q E s := by
  have isz : items.size = ks.length := by have := hk.1; rwa [Array.length_toList] at this
  obtain ⟨c, tl, hmro⟩ := F.called_set.mro
  have hmade := F.called_set.made
  have hsub := F.called_set.sub
  have h1 := F.called_set.notType
  have h2 := F.called_set.canCreate
  have hct := F.typeCall_set_1 (.ref l)
  refine wpAny_call (codeAny_of_tree (show wpAny _ _ (callAny (.type "set") _) _ _ _ from wpAny_pure ⟨Code.quiet_builtin _ (by decide +kernel), codeAny_builtin F.entry_type_call ?_⟩))
  rw [Around.under_plain (weight_type_call_type "set" [.ref l] []) rfl]
  repeat (any_goals (first | assumption | wp_step))
  refine codeAny_mono (code_set_led1 (.ref l) (E := E) (Q₁ := fun obj s1 => obj = .ref s.heap.objs.size ∧ s1 = { s with heap := s.heap.push (set0 w) }) ⟨rfl, rfl⟩) fun r s1 hr => ?_
  match r, hr with
  | .error e, hr => exact hr
  | .ok .next, hr => exact hr.elim
  | .ok .brk, hr => exact hr.elim
  | .ok .cont, hr => exact hr.elim
  | .ok (.ret obj), hr =>
    obtain ⟨rfl, rfl⟩ := hr
    have hD : (s.heap.push (set0 w)).get? s.heap.objs.size = some (set0 w) := Heap.get?_push_size _ rfl
    have hT : Shared.TypeIs { s with heap := s.heap.push (set0 w) } (.ref s.heap.objs.size) "set" := ⟨_, hD, rfl⟩
    have hli := F.called_set.init.lookup
    have hbi := F.called_set.init.bind (.ref s.heap.objs.size)
    repeat (any_goals (first | assumption | wp_step))
    refine codeAny_mono (codeAny_call_builtin (R := wants (fun r s2 => r = .none ∧ ∃ h1 tk c, s2 = { s with heap := h1, toks := tk } ∧ GSet knd h1 s.heap.objs.size (fun j => decide (j ∈ ks)) c ∧ c ≤ ks.length ∧
        (∀ b o, s.heap.get? b = some o → h1.get? b = some o)) E) F.called_set.init.plain F.entry_set_init (check_set_init_1 hT ?_)) fun r2 s2 hr2 => ?_
    · obtain ⟨⟨ocls, odict, odata, oslots⟩, hol, hcl, nl, hdl⟩ := hl
      simp only at hcl hdl
      subst hcl; subst hdl
      have hol2 : (s.heap.push (set0 w)).get? l = some { cls := .type "tuple", dict := odict, data := .seq items nl, slots := oslots } := Heap.get?_push_of_some _ hol
      have f1 := F.sub_tuple_set
      have f2 := F.sub_tuple_frozenset
      have f3 : (Value.type "tuple" == Value.type "dict") = false := by decide
      have hl1 : (s.heap.push (set0 w)).IsTuple l items := ⟨_, hol2, rfl, nl, rfl⟩
      unfold Builtin.«set.__init__» noKeywords Builtin.Frozenset.updateFrom
      generalize hPI : pyIter = PI
      wp_walk
      subst hPI
      refine wpAny_pyIter_tuple hl1 (wpAny_bind (wpAny_runValue ?_))
      have lt : l < s.heap.objs.size := Heap.lt_size hol
      have hh3 : A.in1.in1.in1.handled = none := by simp [hh]
      have nI : l ≠ (s.heap.push (set0 w)).objs.size := by
        rw [Heap.size_push]; exact Nat.ne_of_lt (Nat.lt_succ_of_lt lt)
      have nF : s.heap.objs.size ∉ [(s.heap.push (set0 w)).objs.size, l] := by
        rw [Heap.size_push]
        simp only [List.mem_cons, List.not_mem_nil, or_false, not_or]
        exact ⟨Nat.ne_of_lt (Nat.lt_succ_self _), Nat.ne_of_gt lt⟩
      have hv : ∀ (i : Nat) (v : Value), items[i]? = some v → ∃ k, ks[i]? = some k ∧ knd.is k v = true ∧ v.scannable = true := fun i v z => hk.2 i v (by rw [Array.getElem?_toList]; exact z)
      refine gset_loop ((Walks.tuple hh3 _ l nI items).toS) s.heap.objs.size nF ks isz hb hv (items.size - 0) 0 _ (by omega) (Nat.zero_le _) ⟨⟨_, Heap.get?_push_size _ rfl, rfl, rfl⟩, hl1.push _⟩ ?start ?stop
      case start => exact ⟨0, Nat.le_refl 0, gset_new (Heap.get?_push_of_some _ hD) fun k => by simp⟩
      case stop =>
        rintro ⟨h3, g3, d3, tk3, os3⟩ c3 mv hc3 T3
        obtain rfl : g3 = s.gens := mv.gens
        obtain rfl : d3 = s.drawn := mv.drawn
        obtain rfl : os3 = s.os := mv.os
        rw [isz] at hc3
        refine wpAny_pure (wpAny_pure ⟨rfl, h3, tk3, c3, rfl, T3, hc3, fun b o e => ?_⟩)
        have lb : b < s.heap.objs.size := Heap.lt_size e
        refine mv.heap b o (fun z => ?_) (Heap.get?_push_of_some _ (Heap.get?_push_of_some _ e))
        rcases List.mem_cons.mp z with z | z
        · exact Nat.ne_of_lt lb z
        · have z := List.mem_singleton.mp z
          rw [Heap.size_push] at z
          exact Nat.ne_of_lt (Nat.lt_succ_of_lt lb) z
    · match r2, hr2 with
      | .error e, hr2 => exact hr2
      | .ok .next, hr2 => exact hr2.elim
      | .ok .brk, hr2 => exact hr2.elim
      | .ok .cont, hr2 => exact hr2.elim
      | .ok (.ret r), hr2 =>
        obtain ⟨rfl, h3, tk3, c3, rfl, T3, hc3, kp⟩ := hr2
        repeat (any_goals (first | assumption | wp_step))
        exact fin _ _ _ T3 hc3 kp
end
end Fx
set_option Elab.async false
set_option linter.all false
set_option maxRecDepth 100000
set_option maxHeartbeats 3200000
/-! Fx, part 17: sorted(set(texts)). -/
namespace Fx
open PySem L2
open PySem.Spec PyProof.Rows
/-! ### the sorted members of a list of texts -/
def ltT (a b : Str) : Bool := decide (a.cps.toList < b.cps.toList)
/-- put in its place, if it is not there -/
def putT (x : Str) : List Str → List Str
  | [] => [x]
  | y :: l => if x = y then y :: l else if ltT x y then x :: y :: l else y :: putT x l
def canonT (ws : List Str) : List Str := ws.foldr putT []
theorem ltT_irr (a : Str) : ltT a a = false := decide_eq_false (List.lt_irrefl _)
theorem ltT_trans {a b c : Str} (h : ltT a b = true) (h2 : ltT b c = true) : ltT a c = true := decide_eq_true (List.lt_trans (of_decide_eq_true h) (of_decide_eq_true h2))
theorem cps_tri : ∀ {l m : List Nat}, ¬ l < m → ¬ m < l → l = m
  | [], [], _, _ => rfl
  | [], _ :: _, h, _ => absurd (by simp) h
  | _ :: _, [], _, h => absurd (by simp) h
  | a :: l, b :: m, h1, h2 => by
    rw [List.cons_lt_cons_iff] at h1 h2
    have e : a = b := by omega
    subst e
    rw [cps_tri (fun h => h1 (.inr ⟨rfl, h⟩)) (fun h => h2 (.inr ⟨rfl, h⟩))]
theorem text_ext {a b : Str} (h : a.cps.toList = b.cps.toList) : a = b := by
  cases a; cases b
  exact congrArg Str.mk (Array.toList_inj.mp h)
theorem ltT_tri {a b : Str} (h : a ≠ b) (h1 : ltT a b = false) : ltT b a = true := by
  cases e : ltT b a with
  | true => rfl
  | false => exact absurd (text_ext (cps_tri (of_decide_eq_false h1) (of_decide_eq_false e))) h
theorem putT_mem (x y : Str) : ∀ l : List Str, y ∈ putT x l ↔ y = x ∨ y ∈ l
  | [] => by simp [putT]
  | z :: l => by
    unfold putT
    by_cases e : x = z
    · rw [if_pos e]; subst e; simp
    · rw [if_neg e]
      by_cases h : ltT x z = true
      · rw [if_pos h]; simp
      · rw [if_neg h, List.mem_cons, putT_mem x y l, List.mem_cons]
        constructor
        · rintro (h | h | h)
          · exact .inr (.inl h)
          · exact .inl h
          · exact .inr (.inr h)
        · rintro (h | h | h)
          · exact .inr (.inl h)
          · exact .inl h
          · exact .inr (.inr h)
theorem canonT_mem (y : Str) : ∀ ws : List Str, y ∈ canonT ws ↔ y ∈ ws
  | [] => by simp [canonT]
  | w :: ws => by
    show y ∈ putT w (canonT ws) ↔ _
    rw [putT_mem, canonT_mem y ws, List.mem_cons]
abbrev RisT (l : List Str) : Prop := l.Pairwise fun a b => ltT a b = true
theorem putT_ris (x : Str) : ∀ {l : List Str}, RisT l → RisT (putT x l)
  | [], _ => List.pairwise_singleton _ _
  | z :: l, h => by
    obtain ⟨h1, h2⟩ := List.pairwise_cons.mp h
    unfold putT
    by_cases e : x = z
    · rw [if_pos e]; exact h
    · rw [if_neg e]
      by_cases hx : ltT x z = true
      · rw [if_pos hx]
        refine List.pairwise_cons.mpr ⟨fun b hb => ?_, h⟩
        rcases List.mem_cons.mp hb with q | q
        · rw [q]; exact hx
        · exact ltT_trans hx (h1 b q)
      · rw [if_neg hx]
        refine List.pairwise_cons.mpr ⟨fun b hb => ?_, putT_ris x h2⟩
        rcases (putT_mem x b l).mp hb with q | q
        · rw [q]; exact ltT_tri e (by simpa using hx)
        · exact h1 b q
theorem canonT_ris : ∀ ws : List Str, RisT (canonT ws)
  | [] => List.Pairwise.nil
  | w :: ws => putT_ris w (canonT_ris ws)
/-- rising lists of the same members are the same -/
theorem risT_uniq : ∀ {l m : List Str}, RisT l → RisT m → (∀ y, y ∈ l ↔ y ∈ m) → l = m
  | [], [], _, _, _ => rfl
  | [], b :: m, _, _, h => by simpa using (h b).mpr List.mem_cons_self
  | a :: l, [], _, _, h => by simpa using (h a).mp List.mem_cons_self
  | a :: l, b :: m, h1, h2, h => by
    obtain ⟨p1, p2⟩ := List.pairwise_cons.mp h1
    obtain ⟨q1, q2⟩ := List.pairwise_cons.mp h2
    have e : a = b := by
      rcases List.mem_cons.mp ((h a).mp List.mem_cons_self) with e | e
      · exact e
      · rcases List.mem_cons.mp ((h b).mpr List.mem_cons_self) with e2 | e2
        · exact e2.symm
        · have h3 := ltT_trans (p1 b e2) (q1 a e)
          rw [ltT_irr] at h3; cases h3
    subst e
    rw [risT_uniq p2 q2 fun y => ?_]
    have hy := h y
    rw [List.mem_cons, List.mem_cons] at hy
    constructor
    · intro z
      rcases hy.mp (.inr z) with e | e
      · subst e; have h3 := p1 y z; rw [ltT_irr] at h3; cases h3
      · exact e
    · intro z
      rcases hy.mpr (.inr z) with e | e
      · subst e; have h3 := q1 y z; rw [ltT_irr] at h3; cases h3
      · exact e
theorem ris_of : ∀ {p : Str} {l : List Str}, risingS p l = true → (p :: l).Nodup → RisT (p :: l)
  | p, [], _, _ => List.pairwise_singleton _ _
  | p, x :: l, h, nd => by
    unfold risingS at h
    rw [Bool.and_eq_true] at h
    obtain ⟨n1, n2⟩ := List.nodup_cons.mp nd
    have ih := ris_of h.2 n2
    have hx : ltT p x = true := by
      have hne : x ≠ p := fun z => n1 (by rw [z]; exact List.mem_cons_self)
      refine ltT_tri hne ?_
      have := h.1
      rw [ltCps_eq] at this
      simpa [ltT] using this
    refine List.pairwise_cons.mpr ⟨fun b hb => ?_, ih⟩
    rcases List.mem_cons.mp hb with q | q
    · rw [q]; exact hx
    · exact ltT_trans hx ((List.pairwise_cons.mp ih).1 b q)
theorem ris_sorted {l : List Str} (h : sortedS l = true) (nd : l.Nodup) : RisT l := by
  cases l with
  | nil => exact List.Pairwise.nil
  | cons p l => exact ris_of h nd

/-! ### the rules -/
section
variable {P : Program} {w : World} {A : Around} {E : Value → Shared → Prop} {s : Shared}
abbrev txK (P : Program) (w : World) := PySem.strKind P w
theorem tx_of {S : Str → Bool} {es : Array (Int × Value)} {t : SetTable} (T : Tbl (txK P w) S es t) : (∀ v ∈ es.toList.map (·.2), ∃ x tk, v = .str x tk) ∧ (es.toList.map fun e => strOf e.2).Nodup ∧ ∀ k, k ∈ (es.toList.map fun e => strOf e.2) ↔ S k = true := by
  have one : ∀ e ∈ es.toList, ∃ x tk, e.2 = .str x tk := fun e he => by
    obtain ⟨⟨k, hk, _⟩, _⟩ := T.el e he
    obtain ⟨tk, h⟩ := Value.isStrOf_shape hk
    exact ⟨k, tk, h⟩
  refine ⟨fun v hv => ?_, ?_, fun k => ?_⟩
  · obtain ⟨e, he, rfl⟩ := List.mem_map.mp hv
    exact one e he
  · rw [List.Nodup, List.pairwise_map]
    refine List.Pairwise.imp_of_mem (R := Apart (txK P w)) (fun {x y} hx hy hxy e => ?_) T.ap
    obtain ⟨a, t1, h1⟩ := one x hx
    obtain ⟨b, t2, h2⟩ := one y hy
    rw [h1, h2] at e
    have e' : a = b := e
    subst e'
    exact hxy a ⟨by rw [h1]; exact strKind_is P w a t1, by rw [h2]; exact strKind_is P w a t2⟩
  · rw [T.me k, List.mem_map]
    constructor
    · rintro ⟨e, he, q⟩
      obtain ⟨a, t1, h1⟩ := one e he
      exact ⟨e, he, by rw [← q, h1]; exact strKind_is P w a t1⟩
    · rintro ⟨e, he, q⟩
      obtain ⟨tk, h⟩ := Value.isStrOf_shape q
      exact ⟨e, he, by rw [h]; rfl⟩
theorem sorted_texts {a : Addr} {S : Str → Bool} {n : Nat} {Q : Value → Shared → Prop} (R : GSet (txK P w) s.heap a S n) (hh : A.handled = none) (h64 : n < 64)
    (fin : ∀ s1 p (out : Array Value) (c : Nat) (ys : List Str), (∀ b o, s.heap.get? b = some o → s1.heap.get? b = some o) → s1.gens = s.gens → s1.os = s.os → s.heap.objs.size ≤ p →
      s1.heap.get? p = some (seqObj "list" out c) → StrsAre out.toList ys → RisT ys → (∀ k, k ∈ ys ↔ S k = true) → ys.length = n → Q (.ref p) s1) :
    wpAny (model P w) A (call (.builtin "sorted") [.ref a]) Q E s := by
  obtain ⟨o, es, ep, t, ho, hx, hd, T, hn⟩ := R
  obtain ⟨g1, g2, g3⟩ := tx_of T
  refine Calls.call_function_entry kind_sorted plain_sorted entry_sorted (args_sorted1 _) ?_
  unfold Builtin.«sorted»
  refine wpAny_bind (m := checkCount "sorted" 1 1 _) (wpAny_pure (wpAny_bind (collect_set (A := A.in1) hh ⟨o, ho, hx.1, hd⟩ T.ft T.sm T.rs T.ld fun s1 vs k1 hz y1 y2 pm => ?_)))
  have len : vs.length = n := by rw [pm.length_eq, List.length_map, Array.length_toList]; exact hn
  have hS : StrsAre vs (vs.map strOf) := strsAre_map vs fun v hv => g1 v (pm.mem_iff.mp hv)
  have pk : (vs.map strOf).Perm (es.toList.map fun e => strOf e.2) := by
    have q := pm.map strOf
    rwa [List.map_map] at q
  refine wpAny_bind (wpAny_newList ?_ (by rw [len, sizeLine_eq]; omega))
  have hL : (s1.heap.push (seqObj "list" vs.toArray 0)).get? s1.heap.objs.size = some (seqObj "list" vs.toArray 0) := Heap.get?_push_size _ rfl
  refine wpAny_bind (wpAny_holding (wpAny_call_entry slot_list_sort ⟨_, hL, rfl⟩ entry_list_sort (list_sort_treeK strKind_oneLt hL hS.keysOf (fun v₁ v₂ rest e => keyKind_strs (by rw [← e]; exact hS)) (by rw [len]; exact h64) fun st hp hs => ⟨_, rfl, ?_⟩) (args_list_sort _)))
  obtain ⟨ys, a1, a2, a3⟩ := sorted_out_str hS hp hs
  have pn := a2.trans pk
  obtain ⟨c, hc⟩ := sortedHeap_at (vs := vs) (out := (arrOf st).map (·.2)) hL
  refine wpAny_pure ⟨_, rfl, fin _ s1.heap.objs.size _ c ys (fun b u e => ?_) y1 y2 hz hc a1 (ris_sorted a3 (pn.nodup_iff.mpr g2)) (fun k => by rw [pn.mem_iff]; exact g3 k) (by rw [pn.length_eq, List.length_map, Array.length_toList]; exact hn)⟩
  have q := k1 b u e
  have lb := Heap.lt_size q
  show (sortedHeap (s1.heap.push (seqObj "list" vs.toArray 0)) s1.heap.objs.size vs _).get? b = some u
  rw [sortedHeap_old (Nat.ne_of_lt lb) (by rw [size_push']; exact Nat.lt_succ_of_lt lb)]
  exact Heap.get?_push_of_some _ q
end
section
variable {X : Cx}
/-- a set of the texts ws -/
def SetTO (P : Program) (w : World) (p : Addr) (ws : List Str) : HO := .ext fun h => ∃ c, GSet (txK P w) h p (fun j => decide (j ∈ ws)) c ∧ c ≤ ws.length
theorem keys_of_vals : ∀ {ws : List Str} {us : List Value}, Vals (ws.map V.str) us → KeysAre (txK X.prog X.w) us ws := fun {ws us} r => by
  refine ⟨by rw [← r.length, List.length_map], fun i v hv => ?_⟩
  have all : ∀ {ws : List Str} {us : List Value}, Vals (ws.map V.str) us → ∀ (i : Nat) (v : Value), us[i]? = some v → ∃ k, ws[i]? = some k ∧ (txK X.prog X.w).is k v = true ∧ v.scannable = true := by
    intro ws
    induction ws with
    | nil => intro us r i v h; cases r; simp at h
    | cons x ws ih =>
      intro us r i v h
      cases r with
      | cons r1 rs =>
        obtain ⟨tk, rfl⟩ := r1
        cases i with
        | zero => simp at h; subst h; exact ⟨x, rfl, strKind_is _ _ x tk, rfl⟩
        | succ i => simpa using ih rs i v (by simpa using h)
  exact all r i v hv
theorem cr_setT (hc : X.calm = true) : CallR X (.type "set") (fun xs H Q => ∃ (a : Addr) (ws : List Str), xs = [.ref a] ∧ (SqL X.K H a (ws.map V.str) ∨ SqT X.K H a (ws.map V.str)) ∧ ws.length + 1 < scanBound ∧ ∀ p, H p = none → Q (.ref p) (upd H p (SetTO X.prog X.w p ws))) := by
  intro pins s σ H xs us Q I r h
  obtain ⟨a, ws, rfl, ha, hb, q⟩ := h
  rw [Vals.ref1 r]
  have fin : ∀ (h1 : Heap) (tk c : Nat), GSet (txK X.prog X.w) h1 s.heap.objs.size (fun j => decide (j ∈ ws)) c → c ≤ ws.length → (∀ b o, s.heap.get? b = some o → h1.get? b = some o) → EP X pins σ Q (.ref s.heap.objs.size) { s with heap := h1, toks := tk } := fun h1 tk c G hcw kp => by
    obtain ⟨o, _, _, _, ho, _⟩ := id G
    refine ⟨.ref _, upd H s.heap.objs.size (SetTO X.prog X.w s.heap.objs.size ws), I.laid (t' := tk) kp (Nat.le_refl _) ⟨⟨c, G, hcw⟩, ⟨o, ho⟩, fun h1 h2 ⟨c, G, y⟩ k => ⟨c, G.keep k, y⟩⟩, rfl, q _ (I.hok.fresh (Nat.le_refl _))⟩
  rcases ha with ha | ha
  · obtain ⟨its, rv, hl, _⟩ := I.list ha
    exact gset_of_list (knd := txK X.prog X.w) ws (I.ok.hd hc) hl.isList (by rw [List.toList_toArray]; exact keys_of_vals rv) hb fin
  · obtain ⟨its, rv, ht, _⟩ := I.tuple ha
    exact gset_of_tuple (knd := txK X.prog X.w) ws (I.ok.hd hc) ht (by rw [List.toList_toArray]; exact keys_of_vals rv) hb fin
theorem cr_sortedT (hc : X.calm = true) : CallR X (.builtin "sorted") (fun xs H Q => ∃ (a : Addr) (ws : List Str), xs = [.ref a] ∧ H a = some (SetTO X.prog X.w a ws) ∧ ws.length < 64 ∧ ∀ p, H p = none → Q (.ref p) (upd H p (.lst ((canonT ws).map V.str)))) := by
  intro pins s σ H xs us Q I r h
  obtain ⟨a, ws, rfl, ha, h64, q⟩ := h
  rw [Vals.ref1 r]
  obtain ⟨⟨c, G, hcw⟩, _, _⟩ := I.hok a _ ha
  refine sorted_texts G (I.ok.hd hc) (by omega) fun s1 p out e ys k g o hp hg hi hr hm hl => ?_
  have ey : ys = canonT ws := risT_uniq hr (canonT_ris ws) fun y => by rw [hm y, canonT_mem]; simp
  subst ey
  have hlen : ((canonT ws).map V.str).length ≤ sizeLine := by rw [List.length_map, hl, sizeLine_eq]; omega
  have hn : H p = none := I.hok.fresh hp
  have J : Inv X pins σ (upd H p (.lst ((canonT ws).map V.str))) { s with heap := s1.heap, gens := s1.gens, drawn := s1.drawn, toks := s1.toks } :=
    I.call (ch := []) (Un.laid k hp hn) (I.hok.laid k hp ⟨hlen, out.toList, e, vals_of_strs hi, hg⟩) (by rw [g]; exact I.bare) (fun _ z => nomatch z)
  have es : s1 = { s with heap := s1.heap, gens := s1.gens, drawn := s1.drawn, toks := s1.toks } := by
    rcases s1 with ⟨_, _, _, _, _⟩
    rcases s with ⟨_, _, _, _, _⟩
    cases o
    rfl
  rw [es]
  exact ⟨.ref p, _, J, rfl, q p hn⟩
/-- sorted(set(e)) -/
theorem ef_sortedSet {e : Expr} {ws : List Str} {σ : L2.St} {B : Hp} {p1 p2 q1 q2 : Pos} (hc : X.calm = true) (hm1 : X.mg "sorted" = none) (hm2 : X.mg "set" = none) (he : EN X e σ B (fun d => d = .lst (Fx.D.strs ws) ∨ d = .tup (Fx.D.strs ws))) (h64 : ws.length < 64)
    (hg1 : Gl X "sorted" := by rfl) (hg2 : Gl X "set" := by rfl) (hs1 : starEach [e] X.env = (false, eval e X.env) :: starEach [] X.env := by rfl)
    (hs2 : starEach [.Call (.Name "set" p2) [e] [] q2] X.env = (false, eval (.Call (.Name "set" p2) [e] [] q2) X.env) :: starEach [] X.env := by rfl) (hp1 : (backTo q2 (starEach [] X.env)).any (·.1) = false := by rfl) (hp2 : (backTo q1 (starEach [] X.env)).any (·.1) = false := by rfl) :
    EF X (.Call (.Name "sorted" p1) [.Call (.Name "set" p2) [e] [] q2] [] q1) σ B (Eq (Fx.D.strs (canonT ws))) := fun B1 H e1 e2 Q k =>
  RE.of (pe_callB (cr_sortedT hc) hg1 hm1 bt_sorted (pa_cons (pe_callTy (cr_setT hc) hg2 hm2 bt_set (pa_cons cE pa_nil hs1) (by decide) (by decide) hs1 hp1) pa_nil hs2) (by decide) (by decide) hs2 hp2)
    (he B1 H e1 e2 _ fun v d B2 H2 s q r => by
      have hq : ∃ a, v = .ref a ∧ (SqL X.K H2 a (ws.map V.str) ∨ SqT X.K H2 a (ws.map V.str)) := by
        rcases q with rfl | rfl
        · obtain ⟨a, xs, rfl, h1, h2⟩ := Rp.lst.mp r
          cases h2.toStrs
          exact ⟨a, rfl, .inl (SqL.of (s.bh _ _ h1))⟩
        · obtain ⟨a, xs, rfl, h1, h2⟩ := Rp.tup.mp r
          cases h2.toStrs
          exact ⟨a, rfl, .inr (s.bh.t h1)⟩
      obtain ⟨a, rfl, ha⟩ := hq
      refine ⟨a, ws, rfl, ha, by unfold scanBound; omega, fun p hp => ⟨p, ws, rfl, upd_same, h64, fun l hl => ?_⟩⟩
      have hpl : l ≠ p := fun z => by subst z; rw [upd_same] at hl; cases hl
      rw [upd_ne hpl] at hl
      exact k l _ _ B2 _ ((s.trans (Step.own (o := SetTO X.prog X.w p ws) s.bh hp)).trans (Step.own (o := .lst ((canonT ws).map V.str)) (s.bh.put (s.bh.back hp)) (by rw [upd_ne hpl]; exact hl))) (s.h.back hl) (s.bh.back hl) upd_same rfl (RpL.strs.mpr rfl))
end
end Fx
set_option Elab.async false
set_option linter.all false
set_option maxRecDepth 100000
set_option maxHeartbeats 4000000
/-! Wx, part 12: values. -/
namespace Wx
open PySem L2 Fx PySem.Spec PyProof.Rows
/-- no address -/
def nr : D → Bool
  | .ref _ => false
  | _ => true
def nrs (ds : List D) : Bool := ds.all nr
theorem vw_nr {M : Mem} {d : D} (h : nr d = true) : vw M d = d := by cases d <;> first | rfl | cases h
theorem isC_nr {M : Mem} {d : D} (h : nr d = true) : isC M d = false := by cases d <;> first | rfl | cases h
theorem vws_nr {M : Mem} : ∀ {ds : List D}, nrs ds = true → ds.map (vw M) = ds
  | [], _ => rfl
  | d :: ds, h => by
    unfold nrs at h
    rw [List.all_cons, Bool.and_eq_true] at h
    rw [List.map_cons, vw_nr h.1, vws_nr h.2]
theorem anyC_nr {M : Mem} : ∀ {ds : List D}, nrs ds = true → anyC M ds = false
  | [], _ => rfl
  | d :: ds, h => by
    unfold nrs at h
    rw [List.all_cons, Bool.and_eq_true] at h
    unfold anyC
    rw [List.any_cons, isC_nr h.1]
    exact anyC_nr h.2
theorem vq_nr {M : Mem} {ds : List D} {Q : PD} {d : D} (h : nrs ds = true) (q : Q d M) : vq M ds Q d := ⟨fun z => (by rw [anyC_nr h] at z; cases z), q⟩
theorem vq_sc {M : Mem} {ds : List D} {Q : PD} {d : D} (h : D.scalar d = true) (q : Q d M) : vq M ds Q d := ⟨fun _ => h, q⟩
section
variable {K : PySem.W.Frag} {T : Tb} {l : Sl} {M : Mem} {σ : L2.St} {B H : Hp}
theorem StR.seqL (S : StR K T l M σ B H) {d : D} {v : V} {ds : List D} (h : vw M d = .lst ds) (r : Rp K B d v) : ∃ a xs, v = .ref a ∧ H a = some (.lst xs) ∧ RpL K B ds xs := by
  have one : ∀ {d : D}, Rp K B d v → d = .lst ds → ∃ a xs, v = .ref a ∧ H a = some (.lst xs) ∧ RpL K B ds xs := fun r e => by
    subst e
    obtain ⟨a, xs, rfl, h1, h2⟩ := Rp.lst.mp r
    exact ⟨a, xs, rfl, S.ex _ _ h1, h2⟩
  cases d with
  | ref a =>
    dsimp only [vw] at h
    cases e : M.at a with
    | none => rw [e] at h; cases h
    | some o =>
      rw [e] at h
      cases o with
      | dK _ => cases h
      | dT _ => cases h
      | ins _ _ => cases h
      | lam _ _ _ => cases h
      | lst ds' =>
        cases h
        obtain ⟨_, xs, h1, h2⟩ := S.mm.at_ a _ e
        have : v = .ref a := by simpa only [Rp] using r
        subst this
        exact ⟨a, xs, rfl, h1, h2⟩
  | _ => exact one r h
end
section
variable {P : Program} {w : World} {K : PySem.W.Frag} {mg : Str → Option Value} {base : Heap} {T : Tb} {k j : Nat} {f C : Addr} {fd : FuncData} {ps : List Str} {Y : Co} {M : Mem} {Q : PD} {E : PX} {X : Cx} {l : Sl} {x y : D} {pre : List D → Prop} {post : List D → D → Prop} {fs : List (Str × D)}
theorem CoOk.ex (C : CoOk Y P w K mg base k) (h : cof X = Y) : X.prog = P ∧ X.w = w ∧ X.K = K ∧ X.mg = mg ∧ X.base = base ∧ Room k X.A ∧ X.A.guards = some [] := by
  subst h
  exact ⟨C.prog, C.w, C.K, C.mg, C.base, C.room, C.guards⟩

/-! ### two values -/
theorem oc_p {g : Value → Value → Sem Value} {R : D → Prop} (o : ∀ X : Cx, cof X = Y → X.calm = true → OD X g x y R) (q : ∀ d, R d → Q d M) (hn : nrs [x, y] = true := by rfl) : OC Y T g x y M Q E := fun X l hY hc => by
  have o := o X hY hc
  have h1 : nr x = true ∧ nr y = true := by unfold nrs at hn; simpa using hn
  refine OM.of (P := R) (by rw [vw_nr h1.1, vw_nr h1.2]; exact o) fun d r => vq_nr hn (q d r)
/-- .. one's own seen, the result plain -/
theorem oc_v {g : Value → Value → Sem Value} {x' y' r : D} (hx : vw M x = x') (hy : vw M y = y') (hs : D.scalar r = true) (o : ∀ X : Cx, cof X = Y → X.calm = true → OD X g x' y' (Eq r)) (q : Q r M) : OC Y T g x y M Q E := fun X l hY hc =>
  OM.of (P := Eq r) (by rw [hx, hy]; exact o X hY hc) fun d e => by subst e; exact vq_sc hs q
theorem oc_e {g : Value → Value → Sem Value} {r : D} (o : ∀ X : Cx, cof X = Y → X.calm = true → OD X g x y (Eq r)) (q : Q r M) (hn : nrs [x, y] = true := by rfl) : OC Y T g x y M Q E := oc_p o (fun d e => e ▸ q) hn
theorem OM.ofF {g : Value → Value → Sem Value} {R : List D → Prop} (o : ODF X g x y R) (q : ∀ ds, R ds → Q (.lst ds) M) : OM X T g x y l M Q E := fun pins s σ B H v u vv uu I S rx ry rv ru Qv W tk kn kx => by
  obtain ⟨r, hr, k⟩ := o
  refine hr pins s σ H v u vv uu Qv I rv ru (k v u B H Qv S.ex rx ry fun p ds vs B' H' st h0 h1 h2 pe re => ?_)
  obtain ⟨g, S'⟩ := S.step (st.share h0 h1 h2)
  exact kn _ (.lst ds) M _ H' g S' (rpN nt_ex (Rp.lst.mpr ⟨p, vs, rfl, upd_same, re.mono (Ex.new h1)⟩)) (q ds pe)
theorem oc_f {g : Value → Value → Sem Value} {r : List D} (o : ∀ X : Cx, cof X = Y → X.calm = true → ODF X g x y (Eq r)) (q : Q (.lst r) M) : OC Y T g x y M Q E := fun X l hY hc => OM.ofF (o X hY hc) fun d e => e ▸ q
section
variable {a b : Int} {s t : Str} {u v : Bool} {xs ys : List D} {ws us : List Str}
theorem oc_add (q : Q (.int (a + b)) M) : OC Y T (binaryOp .Add) (.int a) (.int b) M Q E := oc_e (fun _ _ _ => od_add) q
theorem oc_sub (q : Q (.int (a - b)) M) : OC Y T (binaryOp .Sub) (.int a) (.int b) M Q E := oc_e (fun _ _ _ => od_sub) q
theorem oc_mul (h : CMul a b) (q : Q (.int (a * b)) M) : OC Y T (binaryOp .Mult) (.int a) (.int b) M Q E := oc_e (fun _ _ _ => od_mul h) q
theorem oc_mod (h : 0 < b) (q : Q (.int (a % b)) M) : OC Y T (binaryOp .Mod) (.int a) (.int b) M Q E := oc_e (fun _ _ _ => od_mod h) q
theorem oc_fdiv (h : CDiv a b) (q : Q (.int (a / b)) M) : OC Y T (binaryOp .FloorDiv) (.int a) (.int b) M Q E := oc_e (fun _ _ _ => od_fdiv h) q
theorem oc_lt (q : Q (.bl (decide (a < b))) M) : OC Y T (compareOp .Lt) (.int a) (.int b) M Q E := oc_e (fun _ _ _ => od_lt) q
theorem oc_le (q : Q (.bl (decide (a ≤ b))) M) : OC Y T (compareOp .LtE) (.int a) (.int b) M Q E := oc_e (fun _ _ _ => od_le) q
theorem oc_gt (q : Q (.bl (decide (b < a))) M) : OC Y T (compareOp .Gt) (.int a) (.int b) M Q E := oc_e (fun _ _ _ => od_gt) q
theorem oc_ge (q : Q (.bl (decide (b ≤ a))) M) : OC Y T (compareOp .GtE) (.int a) (.int b) M Q E := oc_e (fun _ _ _ => od_ge) q
theorem oc_eqI (q : Q (.bl (decide (a = b))) M) : OC Y T (compareOp .Eq) (.int a) (.int b) M Q E := oc_e (fun _ _ _ => od_eqI) q
theorem oc_neI (q : Q (.bl (!decide (a = b))) M) : OC Y T (compareOp .NotEq) (.int a) (.int b) M Q E := oc_e (fun _ _ _ => od_neI) q
theorem oc_eqT (q : Q (.bl (decide (s = t))) M) : OC Y T (compareOp .Eq) (.str s) (.str t) M Q E := oc_e (fun _ _ _ => od_eqT) q
theorem oc_neT (q : Q (.bl (!decide (s = t))) M) : OC Y T (compareOp .NotEq) (.str s) (.str t) M Q E := oc_e (fun _ _ _ => od_neT) q
theorem oc_eqB (q : Q (.bl (decide (u = v))) M) : OC Y T (compareOp .Eq) (.bl u) (.bl v) M Q E := oc_e (fun _ _ _ => od_eqB) q
theorem oc_neB (q : Q (.bl (!decide (u = v))) M) : OC Y T (compareOp .NotEq) (.bl u) (.bl v) M Q E := oc_e (fun _ _ _ => od_neB) q
theorem oc_isB (q : Q (.bl (decide (u = v))) M) : OC Y T (compareOp .Is) (.bl u) (.bl v) M Q E := oc_e (fun _ _ _ => od_isB) q
theorem oc_notB (q : Q (.bl (!decide (u = v))) M) : OC Y T (compareOp .IsNot) (.bl u) (.bl v) M Q E := oc_e (fun _ _ _ => od_notB) q
theorem oc_addS (h : s.length + t.length ≤ sizeLine) (q : Q (.str (s ++ t)) M) : OC Y T (binaryOp .Add) (.str s) (.str t) M Q E := oc_e (fun _ _ _ => od_addS h) q
theorem oc_ltS (q : Q (.bl (decide (s.cps.toList < t.cps.toList))) M) : OC Y T (compareOp .Lt) (.str s) (.str t) M Q E := oc_e (fun _ _ _ => od_ltS) q
theorem oc_isN (hn : nr x = true) (q : Q (.bl x.isNon) M) : OC Y T (compareOp .Is) x .non M Q E := oc_e (fun _ _ _ => od_isN) q (by unfold nrs; simp [hn]; rfl)
theorem oc_notN (hn : nr x = true) (q : Q (.bl (!x.isNon)) M) : OC Y T (compareOp .IsNot) x .non M Q E := oc_e (fun _ _ _ => od_notN) q (by unfold nrs; simp [hn]; rfl)
theorem oc_inLs (q : Q (.bl (decide (s ∈ ws))) M) : OC Y T (compareOp .In) (.str s) (.lst (D.strs ws)) M Q E := oc_e (fun _ _ _ => od_inLs) q
theorem oc_niLs (q : Q (.bl (!decide (s ∈ ws))) M) : OC Y T (compareOp .NotIn) (.str s) (.lst (D.strs ws)) M Q E := oc_e (fun _ _ _ => od_niLs) q
theorem oc_inTs (q : Q (.bl (decide (s ∈ ws))) M) : OC Y T (compareOp .In) (.str s) (.tup (D.strs ws)) M Q E := oc_e (fun _ _ _ => od_inTs) q
theorem CoOk.u64 (C : CoOk Y P w K mg base k) (h : cof X = Y) : X.A.units + 66 < cLine := by
  have := (C.ex h).2.2.2.2.2.1.un
  omega
theorem oc_eqLs (C : CoOk Y P w K mg base k) (h1 : ∀ w ∈ ws, PyData.strOk w = true) (h2 : ∀ w ∈ us, PyData.strOk w = true) (q : Q (.bl (decide (ws = us))) M) : OC Y T (compareOp .Eq) (.lst (D.strs ws)) (.lst (D.strs us)) M Q E := oc_e (fun X hY _ => od_eqLs (by have := C.u64 hY; omega) h1 h2) q
theorem oc_neLs (C : CoOk Y P w K mg base k) (h1 : ∀ w ∈ ws, PyData.strOk w = true) (h2 : ∀ w ∈ us, PyData.strOk w = true) (q : Q (.bl (!decide (ws = us))) M) : OC Y T (compareOp .NotEq) (.lst (D.strs ws)) (.lst (D.strs us)) M Q E := oc_e (fun X hY _ => od_neLs (by have := C.u64 hY; omega) h1 h2) q
theorem oc_eqTs (C : CoOk Y P w K mg base k) (h1 : ∀ w ∈ ws, PyData.strOk w = true) (h2 : ∀ w ∈ us, PyData.strOk w = true) (q : Q (.bl (decide (ws = us))) M) : OC Y T (compareOp .Eq) (.tup (D.strs ws)) (.tup (D.strs us)) M Q E := oc_e (fun X hY _ => od_eqTs (by have := C.u64 hY; omega) h1 h2) q
theorem oc_eqD (C : CoOk Y P w K mg base k) (px : x.plain = true) (py : y.plain = true) (sx : SeqAt.shaped x.py = true) (sy : SeqAt.shaped y.py = true) (q : Q (.bl (PyData.eqv x.py y.py)) M) (hn : nrs [x, y] = true := by rfl) : OC Y T (compareOp .Eq) x y M Q E := oc_e (fun X hY _ => od_eqD (by have := C.u64 hY; omega) px py sx sy) q hn
theorem oc_neD (C : CoOk Y P w K mg base k) (px : x.plain = true) (py : y.plain = true) (sx : SeqAt.shaped x.py = true) (sy : SeqAt.shaped y.py = true) (q : Q (.bl (!PyData.eqv x.py y.py)) M) (hn : nrs [x, y] = true := by rfl) : OC Y T (compareOp .NotEq) x y M Q E := oc_e (fun X hY _ => od_neD (by have := C.u64 hY; omega) px py sx sy) q hn
/-- x + y, lists, also one's own -/
theorem oc_catV (hx : vw M x = .lst xs) (hy : vw M y = .lst ys) (h : xs.length + ys.length ≤ sizeLine) (q : Q (.lst (xs ++ ys)) M) : OC Y T (binaryOp .Add) x y M Q E := fun X l hY hc pins s σ B H v u vv uu I S rx ry rv ru Qv W tk kn kx => by
  obtain ⟨a, vs, rfl, h1, h2⟩ := S.seqL hx rx
  obtain ⟨b, us, rfl, h3, h4⟩ := S.seqL hy ry
  refine op_cat pins s σ H _ _ vv uu Qv I rv ru ⟨a, b, vs, us, rfl, rfl, h1, h3, by rw [← h2.length, ← h4.length]; exact h, fun p hp => ?_⟩
  obtain ⟨g2, S2⟩ := S.step (Step.alloc (o := .lst (vs ++ us)) S.ex hp)
  exact kn _ (.lst (xs ++ ys)) M _ _ g2 S2 (rpN nt_ex (Rp.lst.mpr ⟨p, vs ++ us, rfl, upd_same, (h2.append h4).mono (Ex.new (S.ex.back hp))⟩)) q
theorem oc_cat (h : xs.length + ys.length ≤ sizeLine) (q : Q (.lst (xs ++ ys)) M) : OC Y T (binaryOp .Add) (.lst xs) (.lst ys) M Q E := oc_catV rfl rfl h q
theorem oc_rep {n : Int} (h1 : -(2 ^ 63) ≤ n) (h2 : n < 2 ^ 63) (h : xs.length * n.toNat ≤ sizeLine) (q : Q (.lst (List.replicate n.toNat xs).flatten) M) : OC Y T (binaryOp .Mult) (.lst xs) (.int n) M Q E := oc_f (fun _ _ _ => odf_rep h1 h2 h) q
end
/-! ### one's own special methods, by older promises -/
theorem oc_inO {t : Bool} (C' : CoOk Y P w K mg base k) (S : Spc K C "__contains__" f) (F : FnOk P w K mg base CX0 j f fd ps (spD K pre post)) (hj : j ≤ k) (hb : Binds K fd ps []) (hpre : pre [.obj C fs, y]) (hpost : ∀ d, post [.obj C fs, y] d → d = .bl t) (hn : nr y = true) (q : Q (.bl t) M) :
    OC Y T (compareOp .In) y (.obj C fs) M Q E := oc_e (r := .bl t) (fun X hY _ => by
  obtain ⟨rfl, rfl, rfl, rfl, rfl, hr, hG⟩ := C'.ex hY
  exact od_inO S F (hr.mono hj) hb hpre hpost) q (by unfold nrs; simp [hn]; rfl)
theorem oc_eqO {t : Bool} (C' : CoOk Y P w K mg base k) (S : Spc K C "__eq__" f) (F : FnOk P w K mg base CX0 j f fd ps (spD K pre post)) (hj : j ≤ k) (hb : Binds K fd ps []) (ho : ∀ X : Cx, X.K = K → Other X C y) (hpre : pre [.obj C fs, y]) (hpost : ∀ d, post [.obj C fs, y] d → d = .bl t) (hn : nr y = true) (q : Q (.bl t) M) :
    OC Y T (compareOp .Eq) (.obj C fs) y M Q E := oc_e (r := .bl t) (fun X hY _ => by
  have ho2 : Other X C y := ho X (C'.ex hY).2.2.1
  obtain ⟨rfl, rfl, rfl, rfl, rfl, hr, hG⟩ := C'.ex hY
  exact od_eqO S F (hr.mono hj) hb ho2 hpre hpost) q (by unfold nrs; simp [hn]; rfl)
theorem oc_neO {t : Bool} (C' : CoOk Y P w K mg base k) (S : Spc K C "__eq__" f) (hne : PySem.W.findIn K (.ref C) "__ne__" = some (some (.builtin "object.__ne__"))) (hmr : PySem.W.mroIn K C (.type "object") = some true) (F : FnOk P w K mg base CX0 j f fd ps (spD K pre post)) (hj : j + 1 ≤ k) (hb : Binds K fd ps [])
    (ho : ∀ X : Cx, X.K = K → Other X C y) (hpre : pre [.obj C fs, y]) (hpost : ∀ d, post [.obj C fs, y] d → d = .bl t) (hn : nr y = true) (q : Q (.bl (!t)) M) : OC Y T (compareOp .NotEq) (.obj C fs) y M Q E := oc_e (r := .bl (!t)) (fun X hY _ => by
  have ho2 : Other X C y := ho X (C'.ex hY).2.2.1
  obtain ⟨rfl, rfl, rfl, rfl, rfl, hr, hG⟩ := C'.ex hY
  exact od_neO S hne hmr F (hr.mono hj) hb ho2 hpre hpost) q (by unfold nrs; simp [hn]; rfl)

/-! ### calls -/
theorem cc_p {g : Value} {ds : List D} {R : D → Prop} (o : ∀ X : Cx, cof X = Y → X.calm = true → CD X g ds R) (q : ∀ d, R d → Q d M) (hn : nrs ds = true := by rfl) : CC Y T g ds M Q E := fun X l hY hc =>
  CV.of (P := R) (by rw [vws_nr hn]; exact o X hY hc) fun d r => vq_nr hn (q d r)
theorem cc_e {g : Value} {ds : List D} {r : D} (o : ∀ X : Cx, cof X = Y → X.calm = true → CD X g ds (Eq r)) (q : Q r M) (hn : nrs ds = true := by rfl) : CC Y T g ds M Q E := cc_p o (fun d e => e ▸ q) hn
theorem cc_v {g : Value} {ds ds' : List D} {r : D} (hd : ds.map (vw M) = ds') (hs : D.scalar r = true) (o : ∀ X : Cx, cof X = Y → X.calm = true → CD X g ds' (Eq r)) (q : Q r M) : CC Y T g ds M Q E := fun X l hY hc =>
  CV.of (P := Eq r) (by rw [hd]; exact o X hY hc) fun d e => by subst e; exact vq_sc hs q
theorem cc_f {g : Value} {ds r : List D} (o : ∀ X : Cx, cof X = Y → X.calm = true → CDF X g ds (Eq r)) (q : Q (.lst r) M) : CC Y T g ds M Q E := fun X l hY hc => CV.ofF (o X hY hc) fun d e => e ▸ q
section
variable {i n : Int} {s : Str} {b : Bool} {ds : List D} {bs : List Bool}
theorem cc_lenL (q : Q (.int (ds.length : Nat)) M) : CC Y T (.builtin "len") [.lst ds] M Q E := cc_e (fun _ _ _ => cd_lenL) q
theorem cc_lenT (q : Q (.int (ds.length : Nat)) M) : CC Y T (.builtin "len") [.tup ds] M Q E := cc_e (fun _ _ _ => cd_lenT) q
theorem cc_lenV (h : vw M x = .lst ds) (q : Q (.int (ds.length : Nat)) M) : CC Y T (.builtin "len") [x] M Q E := cc_v (ds' := [.lst ds]) (by rw [List.map_cons, List.map_nil, h]) rfl (fun _ _ _ => cd_lenL) q
theorem cc_lenS (h : s.length ≤ sizeLine) (q : Q (.int (s.length : Nat)) M) : CC Y T (.builtin "len") [.str s] M Q E := cc_e (fun _ _ _ => cd_lenS h) q
theorem cc_lenSc {ns : List Int} (q : Q (.int (ns.length : Nat)) M) : CC Y T (.builtin "len") [.scr ns] M Q E := cc_e (fun _ _ _ => cd_lenSc) q
theorem cc_listL (q : Q (.lst ds) M) : CC Y T (.type "list") [.lst ds] M Q E := cc_f (fun _ _ _ => cdf_listL) q
theorem cc_listT (q : Q (.lst ds) M) : CC Y T (.type "list") [.tup ds] M Q E := cc_f (fun _ _ _ => cdf_listT) q
theorem cc_tupL (q : Q (.tup ds) M) : CC Y T (.type "tuple") [.lst ds] M Q E := cc_e (fun _ _ _ => cd_tupL) q
theorem cc_tupT (q : Q (.tup ds) M) : CC Y T (.type "tuple") [.tup ds] M Q E := cc_e (fun _ _ _ => cd_tupT) q
theorem cc_int (q : Q (.int i) M) : CC Y T (.type "int") [.int i] M Q E := cc_e (fun _ _ _ => cd_int) q
theorem cc_intB (q : Q (.int (if b then 1 else 0)) M) : CC Y T (.type "int") [.bl b] M Q E := cc_e (fun _ _ _ => cd_intB) q
theorem cc_abs (q : Q (.int (if i < 0 then -i else i)) M) : CC Y T (.builtin "abs") [.int i] M Q E := cc_e (fun _ _ _ => cd_abs) q
theorem cc_max (q : Q (.int (if n > i then n else i)) M) : CC Y T (.builtin "max") [.int i, .int n] M Q E := cc_e (fun _ _ hc => cd_max hc) q
theorem cc_min (q : Q (.int (if n < i then n else i)) M) : CC Y T (.builtin "min") [.int i, .int n] M Q E := cc_e (fun _ _ hc => cd_min hc) q
theorem cc_all (q : Q (.bl (bs.all id)) M) : CC Y T (.builtin "all") [.lst (D.bls bs)] M Q E := cc_e (fun _ _ hc => cd_all hc) q
theorem cc_any (q : Q (.bl (bs.any id)) M) : CC Y T (.builtin "any") [.lst (D.bls bs)] M Q E := cc_e (fun _ _ hc => cd_any hc) q
theorem cc_repr {d : D} (C : CoOk Y P w K mg base k) (hp : d.plain = true) (hs : d.py.showable = true) (hd : d.py.depth ≤ 64) (hz : d.py.shown.length ≤ sizeLine) (q : Q (.str d.py.shown) M) (hn : nrs [d] = true := by rfl) : CC Y T (.builtin "repr") [d] M Q E :=
  cc_e (fun X hY _ => cd_repr (C.ex hY).2.2.2.2.2.2 (C.u64 hY) hp hs hd hz) q hn
theorem cc_lenO {n : List (Str × D) → Nat} (C' : CoOk Y P w K mg base k) (S : Spc K C "__len__" f) (F : FnOk P w K mg base CX0 j f fd ps (spD K pre post)) (hj : j + 1 ≤ k) (hb : Binds K fd ps []) (hpre : pre [.obj C fs]) (hpost : ∀ d, post [.obj C fs] d → d = .int (n fs : Nat)) (hn : n fs < 2 ^ 63) (q : Q (.int (n fs : Nat)) M) :
    CC Y T (.builtin "len") [.obj C fs] M Q E := cc_e (r := .int (n fs : Nat)) (fun X hY _ => by
  obtain ⟨rfl, rfl, rfl, rfl, rfl, hr, hG⟩ := C'.ex hY
  exact cd_lenO S F (hr.mono hj) hb hpre hpost hn) q
theorem cc_strO {t : List (Str × D) → Str} (C' : CoOk Y P w K mg base k) (S : Spc K C "__str__" f) (F : FnOk P w K mg base CX0 j f fd ps (spD K pre post)) (hj : j + 2 ≤ k) (hb : Binds K fd ps []) (hpre : pre [.obj C fs]) (hpost : ∀ d, post [.obj C fs] d → d = .str (t fs)) (q : Q (.str (t fs)) M) :
    CC Y T (.type "str") [.obj C fs] M Q E := cc_e (r := .str (t fs)) (fun X hY _ => by
  obtain ⟨rfl, rfl, rfl, rfl, rfl, hr, hG⟩ := C'.ex hY
  exact cd_strO S F (hr.mono hj) hb hpre hpost) q
/-- a def by an older promise that knows the guards -/
theorem cc_oldG (C' : CoOk Y P w K mg base k) (F : FnG P w K mg base CX0 j f fd ps (spD K pre post)) (hj : j ≤ k) (hb : Binds K fd ps []) (hp : pre ds) (hq : ∀ d, post ds d → Q d M) : CC Y T (.ref f) ds M Q E := fun X l hY hc pins s σ B H vs us I S r rv Qv W tk kn kx => by
  obtain ⟨rfl, rfl, rfl, rfl, rfl, hr, hG⟩ := C'.ex hY
  have want : spD X.K pre post vs H Qv E0 := ⟨ds, B, S.ex, r, hp, fun v d B' H' st pd rd => by
    obtain ⟨g, S'⟩ := S.step st
    exact kn v d M _ H' g S' (rpN nt_ex rd) (hq d pd)⟩
  have hl : us.length = ps.length := rv.length.symm.trans (F.len _ _ _ _ want)
  refine wpAny_call (codeAny_mono (F.run X.A X.stack s H ⟨us, []⟩ us vs Qv E0 (hr.mono hj) hG I.env0 (by have := hb s us I.kIn (by rw [List.append_nil]; exact hl); rwa [List.append_nil] at this) rv want) fun res s' hq => ?_)
  match res, hq with
  | .error e, hq => exact hq.elim
  | .ok (.ret u), hq => exact I.after hq
  | .ok .next, hq => exact hq.elim
  | .ok .brk, hq => exact hq.elim
  | .ok .cont, hq => exact hq.elim
/-- a new instance, by an older promise of __init__ -/
theorem cc_make {fs : List D → List (Str × D)} {dds : List D} {dvs : List V} {dus : List Value} (C' : CoOk Y P w K mg base k) (Mk' : Mk K C f) (F : FnOk P w K mg base CX0 j f fd ps (spMake K C pre fs)) (hj : j + 1 ≤ k) (hb : Binds K fd ps dus) (hd : Vals dvs dus) (hdd : ∀ B : Hp, RpL K B dds dvs) (hp : pre (ds ++ dds)) (q : Q (.obj C (fs (ds ++ dds))) M) :
    CC Y T (.ref C) ds M Q E := fun X l hY hc pins s σ B H vs us I S r rv Qv W tk kn kx => by
  obtain ⟨rfl, rfl, rfl, rfl, rfl, hr, hG⟩ := C'.ex hY
  refine run_make (E := E0) Mk' F (hr.mono hj) hb hd pass0 I rv fun y dx ny ndx hne => made_of (Step.refl S.ex) (r.append (hdd B)) hp (fun v B' H' st z => ?_) y dx ny ndx hne
  obtain ⟨g, S'⟩ := S.step st
  exact kn v _ M _ H' g S' (rpN nt_ex z) q
theorem cc_make0 {fs : List D → List (Str × D)} (C' : CoOk Y P w K mg base k) (Mk' : Mk K C f) (F : FnOk P w K mg base CX0 j f fd ps (spMake K C pre fs)) (hj : j + 1 ≤ k) (hb : Binds K fd ps []) (hp : pre ds) (q : Q (.obj C (fs ds)) M) : CC Y T (.ref C) ds M Q E :=
  cc_make C' Mk' F hj hb .nil (fun _ => RpL.nil) (by rw [List.append_nil]; exact hp) (by rw [List.append_nil]; exact q)
/-- .. by keywords alone -/
theorem ck_make {fs : List D → List (Str × D)} {ks : List Str} {n : Nat} (C' : CoOk Y P w K mg base k) (Mk' : Mk K C f) (F : FnOk P w K mg base CX0 j f fd ps (spMake K C pre fs)) (hj : j + 1 ≤ k) (hb : KBn K fd ps (n + 1) ks (fun us ws => us ++ ws) (fun vs zs => vs ++ zs)) {zs : List D} (l1 : ds.length = n) (l2 : zs.length = ks.length) (hp : pre (ds ++ zs)) (q : Q (.obj C (fs (ds ++ zs))) M) :
    CK Y T (.ref C) ds ks zs M Q E := fun X l hY hc pins s σ B H vs us ws wvs I S r rv rz rw_ Qv W tk kn kx => by
  obtain ⟨rfl, rfl, rfl, rfl, rfl, hr, hG⟩ := C'.ex hY
  refine run_makeK (E := E0) Mk' F (hr.mono hj) hb pass0 I rv rw_ (by rw [← r.length]; exact l1) (by rw [← rz.length]; exact l2) fun y dx ny ndx hne => made_of (Step.refl S.ex) (r.append rz) hp (fun v B' H' st z => ?_) y dx ny ndx hne
  obtain ⟨g, S'⟩ := S.step st
  exact kn v _ M _ H' g S' (rpN nt_ex z) q
/-- a static method with one star parameter, by an older promise -/
theorem cc_star (C' : CoOk Y P w K mg base k) (F : FnR P w K mg base CX0 j f (spSt K pre post)) (hj : j ≤ k) (hl : ds.length ≤ sizeLine) (hp : pre [.tup ds]) (hq : ∀ d, post [.tup ds] d → Q d M) : CC Y T (.ref f) ds M Q E := fun X l hY hc pins s σ B H vs us I S r rv Qv W tk kn kx => by
  obtain ⟨rfl, rfl, rfl, rfl, rfl, hr, hG⟩ := C'.ex hY
  refine wpAny_call (L2.run_fnR (E := E0) (us := us) (vs := vs) F (hr.mono hj) pass0 I rv ⟨[], vs, rfl, rfl, by rw [← r.length]; exact hl, fun t ht => ?_⟩)
  refine ⟨[.tup ds], upd B t (.tup vs), (Step.alloc (o := .tup vs) S.ex ht).bh, RpL.cons (Rp.tup.mpr ⟨t, vs, rfl, SqT.of upd_same, r.mono (Ex.new (S.ex.back ht))⟩) RpL.nil, hp, fun v d B' H' s' pd rd => ?_⟩
  obtain ⟨g, S'⟩ := S.step ((Step.alloc (o := .tup vs) S.ex ht).trans s')
  exact kn v d M _ H' g S' (rpN nt_ex rd) (hq d pd)
end

/-! ### subscripts, parts -/
theorem XM.of {R : D → Prop} (o : IxD X x y R) (q : ∀ d, R d → Q d M) : XM X T x y l M Q E := fun value slice pins s σ B H v u vv uu I S rx ry rv ru Qv W tk kn kx hs => by
  obtain ⟨r, hr, k⟩ := o
  exact hr value slice pins s σ H v u vv uu Qv I rv ru (k v u B H Qv S.ex rx ry fun z d pd rd => kn z d M B H Go.refl S rd (q d pd)) hs
theorem xc_p {R : D → Prop} (o : ∀ X : Cx, cof X = Y → X.calm = true → IxD X x y R) (q : ∀ d, R d → Q d M) : XC Y T x y M Q E := fun X l hY hc => XM.of (o X hY hc) q
section
variable {i : Int} {d : D} {ds : List D} {z : Str} {lo hi : Option Int}
theorem xc_lst (h : L2.atI ds i = some d) (q : Q d M) : XC Y T (.lst ds) (.int i) M Q E := xc_p (R := Eq d) (fun _ _ _ => Fx.ix_lst h) fun _ e => e ▸ q
theorem xc_tup (h : L2.atI ds i = some d) (q : Q d M) : XC Y T (.tup ds) (.int i) M Q E := xc_p (R := Eq d) (fun _ _ _ => Fx.ix_tup h) fun _ e => e ▸ q
theorem xc_scr {ns : List Int} {n : Int} (h : L2.atI ns i = some n) (q : Q (.int n) M) : XC Y T (.scr ns) (.int i) M Q E := xc_p (R := Eq (.int n)) (fun _ _ _ => Fx.ix_scr h) fun _ e => e ▸ q
theorem xc_str {c : Nat} (hz : z.length ≤ sizeLine) (h : L2.atI z.cps.toList i = some c) (q : Q (.str ⟨#[c]⟩) M) : XC Y T (.str z) (.int i) M Q E := xc_p (R := Eq (.str ⟨#[c]⟩)) (fun _ _ _ => Fx.ix_text hz h) fun _ e => e ▸ q
/-- an own list's item -/
theorem xc_own (hx : vw M x = .lst ds) (h : L2.atI ds i = some d) (q : Q d M) : XC Y T x (.int i) M Q E := fun X l hY hc value slice pins s σ B H v u vv uu I S rx ry rv ru Qv W tk kn kx hs => by
  obtain ⟨a, vs, rfl, h1, h2⟩ := S.seqL hx rx
  cases Rp.int.mp ry
  obtain ⟨z, hz, rz⟩ := h2.atI h
  exact L2.ix_list value slice pins s σ H _ _ vv uu Qv I rv ru ⟨a, vs, i, z, rfl, rfl, SqL.of h1, hz, kn z d M B H Go.refl S rz q⟩ hs
theorem pc_lst (hx : vw M x = .lst ds) (q : Q (.lst (cutD ds lo hi)) M) : PC' Y T x lo hi M Q E := fun X l hY hc pins s σ B H v vv vl vu sl I S rx rv hs p1 p2 Qv W tk kn kx => by
  obtain ⟨a, vs, rfl, h1, h2⟩ := S.seqL hx rx
  refine sl_list pins s σ H _ vv vl vu lo hi sl Qv I rv hs p1 p2 ⟨a, vs, rfl, SqL.of h1, fun p hp => ?_⟩
  obtain ⟨g2, S2⟩ := S.step (Step.alloc (o := .lst (cutV vs lo hi)) S.ex hp)
  exact kn _ (.lst (cutD ds lo hi)) M _ _ g2 S2 (rpN nt_ex (Rp.lst.mpr ⟨p, _, rfl, upd_same, h2.cut.mono (Ex.new (S.ex.back hp))⟩)) q
theorem pc_l (q : Q (.lst (cutD ds lo hi)) M) : PC' Y T (.lst ds) lo hi M Q E := pc_lst rfl q
theorem pc_str (hz : z.length ≤ sizeLine) (q : Q (.str (cutS z lo hi)) M) : PC' Y T (.str z) lo hi M Q E := fun X l hY hc pins s σ B H v vv vl vu sl I S rx rv hs p1 p2 Qv W tk kn kx =>
  sl_str pins s σ H _ vv vl vu lo hi sl Qv I rv hs p1 p2 ⟨z, Rp.str.mp rx, hz, kn _ (.str (cutS z lo hi)) M B H Go.refl S (Rp.str.mpr rfl) q⟩

/-! ### built-in types' methods -/
theorem bc_p {id : String} {R : D → Prop} (o : ∀ X : Cx, cof X = Y → X.calm = true → MD X id x ds R) (q : ∀ d, R d → Q d M) : BC Y T id x ds M Q E := fun X l hY hc pins s σ B H v vv vs us I S rx rv rxs rvs Qv W tk kn kx => by
  obtain ⟨r, hr, k⟩ := o X hY hc
  refine hr pins s σ H v vs vv us Qv I rv rvs (k v vs B H Qv S.ex rx rxs fun z d B' H' st pd rd => ?_)
  obtain ⟨g, S'⟩ := S.step st
  exact kn z d M _ H' g S' (rpN nt_ex rd) (q d pd)
theorem bc_join {ws : List Str} (h : (ws.map (·.length)).sum + ws.length * z.length ≤ 16777216) (q : Q (.str (Txt.join z ws)) M) : BC Y T "str.join" (.str z) [.lst (D.strs ws)] M Q E := bc_p (R := Eq (.str (Txt.join z ws))) (fun _ _ _ => md_join h) fun _ e => e ▸ q
theorem mb_join : MbOk "str" "join" "str.join" := ⟨PySem.F.plainAttrs_str, PySem.F.slot_str_join, PySem.F.type_str_join⟩
theorem mb_append : MbOk "list" "append" "list.append" := ⟨PySem.F.plainAttrs_list, PySem.F.slot_list_append, PySem.F.type_list_append⟩
theorem mb_insert : MbOk "list" "insert" "list.insert" := ⟨PySem.F.plainAttrs_list, PySem.F.slot_list_insert, PySem.F.type_list_insert⟩
theorem bc_append {p : Addr} (hp : M.at p = some (.lst ds)) (hl : ds.length < sizeLine) (q : Q .non (M.put p (.lst (ds ++ [d])))) : BC Y T "list.append" (.ref p) [d] M Q E := fun X l hY hc pins s σ B H v vv vs us I S rx rv rxs rvs Qv W tk kn kx => by
  have ev : v = .ref p := by simpa only [Rp] using rx
  subst ev
  obtain ⟨u, rfl, ru⟩ := rpl1 rxs
  obtain ⟨_, xs, h1, h2⟩ := S.mm.at_ p _ hp
  refine mt_append pins s σ H _ _ vv us Qv I rv rvs ⟨p, xs, u, rfl, rfl, h1, by rw [← h2.length]; exact hl, ?_⟩
  obtain ⟨g, S'⟩ := S.put (u := .lst (xs ++ [u])) (o' := .lst (ds ++ [d])) hp ⟨_, upd_same, h2.append (RpL.cons ru RpL.nil)⟩ (fun _ z => nomatch z)
  exact kn .non .non _ B _ g S' (by simp only [Rp]) q
theorem bc_insert {p : Addr} (hp : M.at p = some (.lst ds)) (hl : ds.length < sizeLine) (h0 : 0 ≤ i) (h1 : i < 2 ^ 63) (q : Q .non (M.put p (.lst (ds.take i.toNat ++ [d] ++ ds.drop i.toNat)))) : BC Y T "list.insert" (.ref p) [.int i, d] M Q E := fun X l hY hc pins s σ B H v vv vs us I S rx rv rxs rvs Qv W tk kn kx => by
  have ev : v = .ref p := by simpa only [Rp] using rx
  subst ev
  obtain ⟨a, u, rfl, ra, ru⟩ := rpl2 rxs
  cases Rp.int.mp ra
  obtain ⟨_, xs, e1, h2⟩ := S.mm.at_ p _ hp
  refine mt_insert pins s σ H _ _ vv us Qv I rv rvs ⟨p, xs, i, u, rfl, rfl, e1, by rw [← h2.length]; exact hl, h0, h1, ?_⟩
  obtain ⟨g, S'⟩ := S.put (u := .lst (xs.take i.toNat ++ [u] ++ xs.drop i.toNat)) (o' := .lst (ds.take i.toNat ++ [d] ++ ds.drop i.toNat)) hp ⟨_, upd_same, ((RpL.take _ h2).append (RpL.cons ru RpL.nil)).append (RpL.drop _ h2)⟩ (fun _ z => nomatch z)
  exact kn .non .non _ B _ g S' (by simp only [Rp]) q

/-! ### attributes -/
theorem ac_fld {n : Str} (hc : Cls Y.K C) (hn : NoAttr Y.K C n) (hl : fs.lookup n = some d) (q : Q d M) : AC Y T n (.obj C fs) M Q E := fun X l hY _ pins s σ B H v vv I S rx rv Qv W tk kn kx => by
  subst hY
  obtain ⟨a, dx, gs, rfl, h1, h2⟩ := Rp.obj.mp rx
  obtain ⟨u, hu, ru⟩ := h2.some hl
  obtain rfl : vv = Value.ref a := rv
  exact getattr_ok I (S.ex _ _ h1) hc hn hu fun u' s2 I2 ru' => ⟨u, H, I2, ru', kn u d M B H Go.refl S ru q⟩
theorem ac_own {n : Str} {p : Addr} (hp : M.at p = some (.ins C fs)) (hc : Cls Y.K C) (hn : NoAttr Y.K C n) (hl : fs.lookup n = some d) (q : Q d M) : AC Y T n (.ref p) M Q E := fun X l hY _ pins s σ B H v vv I S rx rv Qv W tk kn kx => by
  subst hY
  have ev : v = .ref p := by simpa only [Rp] using rx
  subst ev
  obtain ⟨_, dx, gs, h1, h2⟩ := S.mm.at_ p _ hp
  obtain ⟨u, hu, ru⟩ := h2.some hl
  obtain rfl : vv = Value.ref p := rv
  exact getattr_ok I h1 hc hn hu fun u' s2 I2 ru' => ⟨u, H, I2, ru', kn u d M B H Go.refl S ru q⟩
theorem ac_cls {n : Str} {mc : Value} {v0 : V} {u0 : Value} (r : ClX.CRead Y.K C mc) (c : ClX.CVal Y.K C mc n v0 u0) (rd : Rp Y.K (fun _ => none) d v0) (q : Q d M) : AC Y T n (.ref C) M Q E := fun X l hY _ pins s σ B H v vv I S rx rv Qv W tk kn kx => by
  subst hY
  have ev : v = .ref C := by simpa only [Rp] using rx
  subst ev
  obtain rfl : vv = Value.ref C := rv
  exact ClX.getcval_ok I r c fun s2 I2 => ⟨v0, H, I2, c.rel, kn v0 d M B H Go.refl S (rd.mono fun a o z => by cases z) q⟩
end
end
end Wx
set_option Elab.async false
set_option linter.all false
set_option maxRecDepth 100000
set_option maxHeartbeats 4000000
/-! Wx, part 13: steps. -/
namespace Wx
open PySem L2 Fx PySem.Spec PyProof.Rows
section
variable {Y : Co} {T : Tb} {Γ : Gm} {l : Sl} {M : Mem} {Q : PD} {E : PX} {a b c : IE} {es fs : List IE} {x m : Str} {i n : Nat} {d : D}
/-! ### expressions -/
theorem we_v (h : l[i]? = some (some d)) (q : Q d M) : wE Y T Γ (.v i) l M Q E := by unfold wE; exact ⟨d, h, q⟩
theorem we_int {n : Int} (q : Q (.int n) M) : wE Y T Γ (.int n) l M Q E := by unfold wE; exact q
theorem we_str {z : Str} (q : Q (.str z) M) : wE Y T Γ (.str z) l M Q E := by unfold wE; exact q
theorem we_bl {z : Bool} (q : Q (.bl z) M) : wE Y T Γ (.bl z) l M Q E := by unfold wE; exact q
theorem we_non (q : Q .non M) : wE Y T Γ .non l M Q E := by unfold wE; exact q
theorem we_dic0 (q : Q (.dic []) M) : wE Y T Γ .dic0 l M Q E := by unfold wE; exact q
theorem we_gl (h : GD Y.K Y.mg x d) (q : Q d M) : wE Y T Γ (.gl x) l M Q E := by unfold wE; exact ⟨d, h, q⟩
theorem we_bin {op : Operator} (h : wE Y T Γ a l M (fun x M1 => wE Y T Γ b l M1 (fun y M2 => OC Y T (binaryOp op) x y M2 Q E) E) E) : wE Y T Γ (.bin op a b) l M Q E := by unfold wE; exact h
theorem we_cmp {op : CmpOp} (h : wE Y T Γ a l M (fun x M1 => wE Y T Γ b l M1 (fun y M2 => OC Y T (compareOp op) x y M2 Q E) E) E) : wE Y T Γ (.cmp op a b) l M Q E := by unfold wE; exact h
theorem we_cm2 {o o' : CmpOp} (h : wE Y T Γ a l M (fun x M1 => wE Y T Γ b l M1 (fun y M2 => OC Y T (compareOp o) x y M2 (kB fun t M3 => (t = false → Q (.bl false) M3) ∧ (t = true → wE Y T Γ c l M3 (fun z M4 => OC Y T (compareOp o') y z M4 Q E) E)) E) E) E) : wE Y T Γ (.cm2 o o' a b c) l M Q E := by unfold wE; exact h
theorem we_and (h : wAnd Y T Γ es l M Q E) : wE Y T Γ (.and es) l M Q E := by unfold wE; exact h
theorem we_or (h : wOr Y T Γ es l M Q E) : wE Y T Γ (.or es) l M Q E := by unfold wE; exact h
theorem we_not (h : wE Y T Γ a l M (kB fun t M1 => Q (.bl (!t)) M1) E) : wE Y T Γ (.not a) l M Q E := by unfold wE; exact h
theorem we_un {op : UnaryOp} (h : wE Y T Γ a l M (fun x M1 => UC Y T (unaryOp op) x M1 Q E) E) : wE Y T Γ (.un op a) l M Q E := by unfold wE; exact h
theorem we_ite (h : wT Y T Γ c l M (fun t M1 => (t = true → wE Y T Γ a l M1 Q E) ∧ (t = false → wE Y T Γ b l M1 Q E)) E) : wE Y T Γ (.ite c a b) l M Q E := by unfold wE; exact h
theorem we_lst (h : wA Y T Γ es l M (fun ds M1 => ds.length ≤ sizeLine ∧ Q (.lst ds) M1) E) : wE Y T Γ (.lst es) l M Q E := by unfold wE; exact h
theorem we_tup (h : wA Y T Γ es l M (fun ds M1 => ds.length ≤ sizeLine ∧ Q (.tup ds) M1) E) : wE Y T Γ (.tup es) l M Q E := by unfold wE; exact h
theorem we_ix (h : wE Y T Γ a l M (fun x M1 => wE Y T Γ b l M1 (fun y M2 => XC Y T x y M2 Q E) E) E) : wE Y T Γ (.ix a b) l M Q E := by unfold wE; exact h
theorem we_sl {lo hi : List IE} (h : wE Y T Γ a l M (fun x M1 => wO Y T Γ lo l M1 (fun i M2 => wO Y T Γ hi l M2 (fun j M3 => PC' Y T x i j M3 Q E) E) E) E) : wE Y T Γ (.sl a lo hi) l M Q E := by unfold wE; exact h
theorem we_rev (h : wE Y T Γ a l M (fun x M1 => ∃ ds, x = .lst ds ∧ Q (.lst ds.reverse) M1) E) : wE Y T Γ (.rev a) l M Q E := by unfold wE; exact .inl h
theorem we_revT (h : wE Y T Γ a l M (fun x M1 => ∃ ds, x = .tup ds ∧ Q (.tup ds.reverse) M1) E) : wE Y T Γ (.rev a) l M Q E := by unfold wE; exact .inr h
theorem we_att (h : wE Y T Γ a l M (fun x M1 => AC Y T m x M1 Q E) E) : wE Y T Γ (.att a m) l M Q E := by unfold wE; exact h
theorem we_cu (h : wA Y T Γ es l M (fun ds M1 => CC Y T (Γ.v i) ds M1 Q E) E) : wE Y T Γ (.cu x i es) l M Q E := by unfold wE; exact h
theorem we_cb {id : String} (h : wA Y T Γ es l M (fun ds M1 => CC Y T (.builtin id) ds M1 Q E) E) : wE Y T Γ (.cb x id es) l M Q E := by unfold wE; exact h
theorem we_ct {id : String} (h : wA Y T Γ es l M (fun ds M1 => CC Y T (.type id) ds M1 Q E) E) : wE Y T Γ (.ct x id es) l M Q E := by unfold wE; exact h
theorem we_mu (h : wE Y T Γ a l M (fun x M1 => ∃ f, MtOk Y.K x M1 m f ∧ wA Y T Γ es l M1 (fun ds M2 => CC Y T (.ref f) (x :: ds) M2 Q E) E) E) : wE Y T Γ (.mu a m es) l M Q E := by unfold wE; exact h
theorem we_mb (h : wE Y T Γ a l M (fun x M1 => ∃ t id, MbOk t m id ∧ KdM M1 x t ∧ wA Y T Γ es l M1 (fun ds M2 => BC Y T id x ds M2 Q E) E) E) : wE Y T Γ (.mb a m es) l M Q E := by unfold wE; exact h
theorem we_isT (h : wE Y T Γ a l M (fun x M1 => wA Y T Γ es l M1 (fun tys M2 => tys.length ≤ sizeLine ∧ IsT Y.K x tys M2 Q) E) E) : wE Y T Γ (.isT a es) l M Q E := by unfold wE; exact h
theorem we_cuk {ks : List Str} (h : wA Y T Γ es l M (fun ds M1 => wA Y T Γ fs l M1 (fun zs M2 => CK Y T (Γ.v i) ds ks zs M2 Q E) E) E) : wE Y T Γ (.cuk x i es ks fs) l M Q E := by unfold wE; exact h
theorem we_muk {ks : List Str} (h : wE Y T Γ a l M (fun x M1 => ∃ f, MtOk Y.K x M1 m f ∧ wA Y T Γ es l M1 (fun ds M2 => wA Y T Γ fs l M2 (fun zs M3 => CK Y T (.ref f) (x :: ds) ks zs M3 Q E) E) E) E) : wE Y T Γ (.muk a m es ks fs) l M Q E := by unfold wE; exact h
theorem we_sm {g : Addr} (hg : SmOk Y.K Y.mg x m g) (h : wA Y T Γ es l M (fun ds M1 => CC Y T (.ref g) ds M1 Q E) E) : wE Y T Γ (.sm x m es) l M Q E := by unfold wE; exact ⟨g, hg, h⟩
theorem we_olst (h : wA Y T Γ es l M (fun ds M1 => ds.length ≤ sizeLine ∧ ∀ p, p ∉ M1.ks → Q (.ref p) ((p, .lst ds) :: M1)) E) : wE Y T Γ (.olst es) l M Q E := by unfold wE; exact h
theorem we_oli (h : wE Y T Γ a l M (fun d M1 => ∃ ds, (vw M1 d = .lst ds ∨ d = .tup ds) ∧ ∀ p, p ∉ M1.ks → Q (.ref p) ((p, .lst ds) :: M1)) E) : wE Y T Γ (.oli a) l M Q E := by unfold wE; exact h
theorem we_odic (h : ∀ p, p ∉ M.ks → Q (.ref p) ((p, .dK []) :: M)) : wE Y T Γ .odic l M Q E := by unfold wE; exact h
theorem wa_nil {Q : List D → Mem → Prop} (q : Q [] M) : wA Y T Γ [] l M Q E := by unfold wA; exact q
theorem wa_cons {Q : List D → Mem → Prop} (h : wE Y T Γ a l M (fun d M1 => wA Y T Γ es l M1 (fun ds M2 => Q (d :: ds) M2) E) E) : wA Y T Γ (a :: es) l M Q E := by unfold wA; exact h
theorem wo_nil {Q : Option Int → Mem → Prop} (q : Q none M) : wO Y T Γ [] l M Q E := by unfold wO; exact q
theorem wo_some {Q : Option Int → Mem → Prop} (h : wE Y T Γ a l M (fun d M1 => ∃ i, d = .int i ∧ Q (some i) M1) E) : wO Y T Γ (a :: es) l M Q E := by unfold wO; exact h
theorem wand_1 (h : wE Y T Γ a l M Q E) : wAnd Y T Γ [a] l M Q E := by unfold wAnd; exact h
theorem wand_2 (h : wE Y T Γ a l M (kB fun t M1 => (t = true → wAnd Y T Γ (b :: es) l M1 Q E) ∧ (t = false → Q (.bl false) M1)) E) : wAnd Y T Γ (a :: b :: es) l M Q E := by unfold wAnd; exact h
theorem wor_1 (h : wE Y T Γ a l M Q E) : wOr Y T Γ [a] l M Q E := by unfold wOr; exact h
theorem wor_2 (h : wE Y T Γ a l M (kB fun t M1 => (t = false → wOr Y T Γ (b :: es) l M1 Q E) ∧ (t = true → Q (.bl true) M1)) E) : wOr Y T Γ (a :: b :: es) l M Q E := by unfold wOr; exact h
section
variable {Q : Bool → Mem → Prop}
theorem wt_not (h : wT Y T Γ a l M (fun t M1 => Q (!t) M1) E) : wT Y T Γ (.not a) l M Q E := by unfold wT; exact h
theorem wt_and (h : wTand Y T Γ es l M Q E) : wT Y T Γ (.and es) l M Q E := by unfold wT; exact h
theorem wt_or (h : wTor Y T Γ es l M Q E) : wT Y T Γ (.or es) l M Q E := by unfold wT; exact h
theorem wt_cmp {op : CmpOp} (h : wE Y T Γ a l M (fun x M1 => wE Y T Γ b l M1 (fun y M2 => OC Y T (compareOp op) x y M2 (kB Q) E) E) E) : wT Y T Γ (.cmp op a b) l M Q E := by unfold wT; exact h
theorem wt_cm2 {o o' : CmpOp} (h : wE Y T Γ a l M (fun x M1 => wE Y T Γ b l M1 (fun y M2 => OC Y T (compareOp o) x y M2 (kB fun t M3 => (t = false → Q false M3) ∧ (t = true → wE Y T Γ c l M3 (fun z M4 => OC Y T (compareOp o') y z M4 (kB Q) E) E)) E) E) E) : wT Y T Γ (.cm2 o o' a b c) l M Q E := by unfold wT; exact h
theorem wt_val (hv : valE a = true) (h : wE Y T Γ a l M (kB Q) E) : wT Y T Γ a l M Q E := by
  cases a <;> first
    | (unfold wT; exact h)
    | cases hv
theorem wtand_1 (h : wT Y T Γ a l M Q E) : wTand Y T Γ [a] l M Q E := by unfold wTand; exact h
theorem wtand_2 (h : wT Y T Γ a l M (fun t M1 => (t = true → wTand Y T Γ (b :: es) l M1 Q E) ∧ (t = false → Q false M1)) E) : wTand Y T Γ (a :: b :: es) l M Q E := by unfold wTand; exact h
theorem wtor_1 (h : wT Y T Γ a l M Q E) : wTor Y T Γ [a] l M Q E := by unfold wTor; exact h
theorem wtor_2 (h : wT Y T Γ a l M (fun t M1 => (t = false → wTor Y T Γ (b :: es) l M1 Q E) ∧ (t = true → Q true M1)) E) : wTor Y T Γ (a :: b :: es) l M Q E := by unfold wTor; exact h
theorem wts_nil (q : Q true M) : wTs Y T Γ [] l M Q E := by unfold wTs; exact q
theorem wts_1 (h : wT Y T Γ a l M Q E) : wTs Y T Γ [a] l M Q E := by unfold wTs; exact h
end
section
variable {Q : List D → Mem → Prop}
theorem wi_l (h : wE Y T Γ a l M (fun d M1 => ∃ ds, d = .lst ds ∧ Q ds M1) E) : wI Y T Γ (.li a) l M Q E := by unfold wI; exact .inl h
theorem wi_t (h : wE Y T Γ a l M (fun d M1 => ∃ ds, d = .tup ds ∧ Q ds M1) E) : wI Y T Γ (.li a) l M Q E := by unfold wI; exact .inr (.inl h)
theorem wi_s (h : wE Y T Γ a l M (fun d M1 => ∃ z, d = .str z ∧ Q (Fx.signs z) M1) E) : wI Y T Γ (.li a) l M Q E := by unfold wI; exact .inr (.inr h)
theorem wi_ra (h : wE Y T Γ a l M (fun d M1 => ∃ n, d = .int n ∧ (-(2 ^ 62) ≤ n ∧ n < 2 ^ 62) ∧ Q (upTo n.toNat) M1) E) : wI Y T Γ (.ra a) l M Q E := by unfold wI; exact h
theorem wi_enL (h : wE Y T Γ a l M (fun d M1 => ∃ ds, d = .lst ds ∧ Q (enumD ds) M1) E) : wI Y T Γ (.en a) l M Q E := by unfold wI; exact .inl h
theorem wi_enT (h : wE Y T Γ a l M (fun d M1 => ∃ ds, d = .tup ds ∧ Q (enumD ds) M1) E) : wI Y T Γ (.en a) l M Q E := by unfold wI; exact .inr h
theorem wi_zi (h : wE Y T Γ a l M (fun d M1 => wE Y T Γ b l M1 (fun d2 M2 => ∃ ds fs, d = .lst ds ∧ d2 = .lst fs ∧ Q (zipD ds fs) M2) E) E) : wI Y T Γ (.zi a b) l M Q E := by unfold wI; exact h
end
/-! ### what is wanted of a result -/
theorem k_bl {t : Bool} {R : Bool → Mem → Prop} (q : R t M) : kB R (.bl t) M := ⟨t, rfl, q⟩
theorem k_len {ds : List D} {R : Prop} (h : Nat.ble ds.length 200 = true) (q : R) : ds.length ≤ sizeLine ∧ R := ⟨Nat.le_trans (Nat.le_of_ble_eq_true h) (by decide), q⟩
theorem k_lst {ds : List D} {R : List D → Prop} (q : R ds) : ∃ es, D.lst ds = .lst es ∧ R es := ⟨ds, rfl, q⟩
theorem k_tup {ds : List D} {R : List D → Prop} (q : R ds) : ∃ es, D.tup ds = .tup es ∧ R es := ⟨ds, rfl, q⟩
theorem k_str {z : Str} {R : Str → Prop} (q : R z) : ∃ es, D.str z = .str es ∧ R es := ⟨z, rfl, q⟩
theorem k_int {n : Int} {R : Int → Prop} (q : R n) : ∃ i, D.int n = .int i ∧ R i := ⟨n, rfl, q⟩
theorem k_zip {ds fs : List D} {R : List D → List D → Prop} (q : R ds fs) : ∃ es gs, D.lst ds = .lst es ∧ D.lst fs = .lst gs ∧ R es gs := ⟨ds, fs, rfl, rfl, q⟩
theorem k_T {A B : Prop} (q : A) : (true = true → A) ∧ (true = false → B) := ⟨fun _ => q, fun h => nomatch h⟩
theorem k_F {A B : Prop} (q : B) : (false = true → A) ∧ (false = false → B) := ⟨fun h => (nomatch h), fun _ => q⟩
theorem k_FT {A B : Prop} (q : A) : (false = false → A) ∧ (false = true → B) := ⟨fun _ => q, fun h => nomatch h⟩
theorem k_TF {A B : Prop} (q : B) : (true = false → A) ∧ (true = true → B) := ⟨fun h => (nomatch h), fun _ => q⟩
/-! ### comprehensions -/
/-- what a comprehension over ds asks -/
def LcQ (Y : Co) (T : Tb) (Γ : Gm) (elt : IE) (tg : List Nat) (ifs : List IE) (own : List (Str × Nat)) (l : Sl) (ds : List D) (M1 : Mem) (Q : PD) : Prop := (∃ (t : Nat → D → Bool) (Pe : Nat → D → D → Prop),
      (∀ i d, ds[i]? = some d → ∃ ps, partsOf tg.length d = some ps ∧ wTs Y T Γ ifs (setAll (wipeS l (own.map (·.2))) tg ps) M1 (fun b M2 => M2 = M1 ∧ b = t i d) (fun _ _ _ => False) ∧
        (t i d = true → wE Y T Γ elt (setAll (wipeS l (own.map (·.2))) tg ps) M1 (fun e M2 => M2 = M1 ∧ Pe i d e) fun _ _ _ => False)) ∧
      ∀ es : List D, (∃ lo : List (Option D), lo.length = ds.length ∧ es = lo.filterMap id ∧ ∀ (i : Nat) (d : D), ds[i]? = some d → (t i d = false ∧ lo[i]? = some none) ∨ (t i d = true ∧ ∃ e, lo[i]? = some (some e) ∧ Pe i d e)) → Q (.lst es) M1) ∨
    ∃ I : Nat → List D → Mem → Prop, I 0 [] M1 ∧
      (∀ i d acc M2, ds[i]? = some d → I i acc M2 → ∃ ps, partsOf tg.length d = some ps ∧ wTs Y T Γ ifs (setAll (wipeS l (own.map (·.2))) tg ps) M2 (fun b M3 => (b = false → I (i + 1) acc M3) ∧
        (b = true → wE Y T Γ elt (setAll (wipeS l (own.map (·.2))) tg ps) M3 (fun e M4 => I (i + 1) (acc ++ [e]) M4) fun _ _ _ => False)) (fun _ _ _ => False)) ∧
      ∀ acc M2, I ds.length acc M2 → Q (.lst acc) M2
theorem we_lc {elt : IE} {tg : List Nat} {it : IT} {ifs : List IE} {own : List (Str × Nat)} (h : wI Y T Γ it l M (fun ds M1 => ds.length ≤ sizeLine ∧ LcQ Y T Γ elt tg ifs own l ds M1 Q) E) : wE Y T Γ (.lc elt tg it ifs own) l M Q E := by unfold wE; exact h
theorem k_inv {elt : IE} {tg : List Nat} {ifs : List IE} {own : List (Str × Nat)} {ds : List D} (I : Nat → List D → Mem → Prop) (h0 : I 0 [] M)
    (h : ∀ i d acc M2, ds[i]? = some d → I i acc M2 → ∃ ps, partsOf tg.length d = some ps ∧ wTs Y T Γ ifs (setAll (wipeS l (own.map (·.2))) tg ps) M2 (fun b M3 => (b = false → I (i + 1) acc M3) ∧
        (b = true → wE Y T Γ elt (setAll (wipeS l (own.map (·.2))) tg ps) M3 (fun e M4 => I (i + 1) (acc ++ [e]) M4) fun _ _ _ => False)) (fun _ _ _ => False))
    (q : ∀ acc M2, I ds.length acc M2 → Q (.lst acc) M2) : LcQ Y T Γ elt tg ifs own l ds M Q := .inr ⟨I, h0, h, q⟩
/-- no test: what each item gives -/
theorem lc_all {ds : List D} {Pe : Nat → D → D → Prop} {R : List D → Prop} (q : ∀ es : List D, es.length = ds.length → (∀ i d, ds[i]? = some d → ∃ e, es[i]? = some e ∧ Pe i d e) → R es) :
    ∀ es : List D, (∃ lo : List (Option D), lo.length = ds.length ∧ es = lo.filterMap id ∧ ∀ (i : Nat) (d : D), ds[i]? = some d → (true = false ∧ lo[i]? = some none) ∨ (true = true ∧ ∃ e, lo[i]? = some (some e) ∧ Pe i d e)) → R es := by
  intro es ⟨lo, h1, h2, h3⟩
  have al : ∃ us : List D, lo = us.map some := by
    have : ∀ (lo : List (Option D)), (∀ i, i < lo.length → ∃ e, lo[i]? = some (some e)) → ∃ us : List D, lo = us.map some := by
      intro lo
      induction lo with
      | nil => exact fun _ => ⟨[], rfl⟩
      | cons x r ih =>
        intro hh
        obtain ⟨e, he⟩ := hh 0 (by simp)
        obtain ⟨us, hu⟩ := ih fun i hi => by
          obtain ⟨e, he⟩ := hh (i + 1) (by simp; exact hi)
          exact ⟨e, by simpa using he⟩
        have he : x = some e := by simpa using he
        exact ⟨e :: us, by rw [he, hu]; rfl⟩
    refine this lo fun i hi => ?_
    obtain ⟨d, hd⟩ : ∃ d, ds[i]? = some d := ⟨ds[i]'(h1 ▸ hi), List.getElem?_eq_getElem _⟩
    rcases h3 i d hd with ⟨z, _⟩ | ⟨_, e, he, _⟩
    · cases z
    · exact ⟨e, he⟩
  obtain ⟨us, rfl⟩ := al
  have e2 : es = us := by rw [h2, List.filterMap_map]; exact List.filterMap_some
  subst e2
  refine q es (by rw [← h1, List.length_map]) fun i d hd => ?_
  rcases h3 i d hd with ⟨z, _⟩ | ⟨_, e, he, he2⟩
  · cases z
  · rw [List.getElem?_map] at he
    cases hq : es[i]? with
    | none => rw [hq] at he; cases he
    | some e' => rw [hq] at he; cases he; exact ⟨e, rfl, he2⟩
variable {elt : IE} {tg : List Nat} {own : List (Str × Nat)} {ds : List D}
/-- what each item gives, by a relation -/
theorem k_rel (Pe : D → D → Prop) (h2 : ∀ d ∈ ds, ∃ ps, partsOf tg.length d = some ps ∧ wE Y T Γ elt (setAll (wipeS l (own.map (·.2))) tg ps) M (fun e M2 => M2 = M ∧ Pe d e) fun _ _ _ => False) (h3 : ∀ es : List D, es.length = ds.length → (∀ (i : Nat) (d : D), ds[i]? = some d → ∃ e : D, es[i]? = some e ∧ Pe d e) → Q (.lst es) M) :
    LcQ Y T Γ elt tg [] own l ds M Q := by
  refine .inl ⟨fun _ _ => true, fun _ d e => Pe d e, fun i d hd => ?_, fun es he => ?_⟩
  · obtain ⟨ps, e1, e2⟩ := h2 d (List.mem_of_getElem? hd)
    exact ⟨ps, e1, wts_nil ⟨rfl, rfl⟩, fun _ => e2⟩
  · exact lc_all (R := fun es => Q (.lst es) M) (Pe := fun _ d e => Pe d e) h3 es he
/-- .. a function of the item -/
theorem k_map (g : D → D) (h2 : ∀ d ∈ ds, ∃ ps, partsOf tg.length d = some ps ∧ wE Y T Γ elt (setAll (wipeS l (own.map (·.2))) tg ps) M (fun e M2 => M2 = M ∧ e = g d) fun _ _ _ => False) (h3 : Q (.lst (ds.map g)) M) :
    LcQ Y T Γ elt tg [] own l ds M Q := by
  refine k_rel (fun d e => e = g d) h2 fun es hl h => ?_
  have e : es = ds.map g := List.ext_getElem? fun i => by
    rw [List.getElem?_map]
    by_cases hi : i < ds.length
    · obtain ⟨e, a1, a2⟩ := h i ds[i] (List.getElem?_eq_getElem hi)
      rw [a1, a2, List.getElem?_eq_getElem hi]; rfl
    · rw [List.getElem?_eq_none (by omega), List.getElem?_eq_none (by omega)]; rfl
  rw [e]; exact h3
/-- .. over typed items -/
theorem k_mapT {α : Type} {ws : List α} {inj : α → D} (g : α → D) (h2 : ∀ a ∈ ws, ∃ ps, partsOf tg.length (inj a) = some ps ∧ wE Y T Γ elt (setAll (wipeS l (own.map (·.2))) tg ps) M (fun e M2 => M2 = M ∧ e = g a) fun _ _ _ => False) (h3 : Q (.lst (ws.map g)) M) :
    LcQ Y T Γ elt tg [] own l (ws.map inj) M Q := by
  refine .inl ⟨fun _ _ => true, fun i _ e => e = ((ws[i]?).map g).getD .non, fun i d hd => ?_, fun es he => ?_⟩
  · rw [List.getElem?_map] at hd
    cases ha : ws[i]? with
    | none => rw [ha] at hd; cases hd
    | some a =>
      rw [ha] at hd
      cases hd
      obtain ⟨ps, e1, e2⟩ := h2 a (List.mem_of_getElem? ha)
      exact ⟨ps, e1, wts_nil ⟨rfl, rfl⟩, fun _ => by dsimp only; rw [ha]; exact e2⟩
  · refine lc_all (R := fun es => Q (.lst es) M) (Pe := fun i _ e => e = ((ws[i]?).map g).getD .non) (fun es hl h => ?_) es he
    have e : es = ws.map g := List.ext_getElem? fun i => by
      rw [List.length_map] at hl
      rw [List.getElem?_map]
      by_cases hi : i < ws.length
      · obtain ⟨e, a1, a2⟩ := h i (inj ws[i]) (by rw [List.getElem?_map, List.getElem?_eq_getElem hi]; rfl)
        rw [a1, a2, List.getElem?_eq_getElem hi]; rfl
      · rw [List.getElem?_eq_none (by omega), List.getElem?_eq_none (by omega)]; rfl
    rw [e]; exact h3
theorem filt_map {α β : Type} (t : α → Bool) (g : α → β) : ∀ ds : List α, (ds.map fun d => if t d = true then some (g d) else none).filterMap id = (ds.filter t).map g
  | [] => rfl
  | d :: ds => by
    rw [List.map_cons, List.filterMap_cons, List.filter_cons]
    by_cases ht : t d = true
    · rw [if_pos ht, if_pos ht, List.map_cons, ← filt_map t g ds]; rfl
    · rw [if_neg ht, if_neg ht, ← filt_map t g ds]; rfl
/-- with a test -/
theorem k_filt {c : IE} (t : D → Bool) (g : D → D) (h2 : ∀ d ∈ ds, ∃ ps, partsOf tg.length d = some ps ∧ wT Y T Γ c (setAll (wipeS l (own.map (·.2))) tg ps) M (fun b M2 => M2 = M ∧ b = t d) (fun _ _ _ => False) ∧
      (t d = true → wE Y T Γ elt (setAll (wipeS l (own.map (·.2))) tg ps) M (fun e M2 => M2 = M ∧ e = g d) fun _ _ _ => False)) (h3 : Q (.lst ((ds.filter t).map g)) M) : LcQ Y T Γ elt tg [c] own l ds M Q := by
  refine .inl ⟨fun _ d => t d, fun _ d e => e = g d, fun i d hd => ?_, fun es ⟨lo, l1, l2, l3⟩ => ?_⟩
  · obtain ⟨ps, e1, e2, e3⟩ := h2 d (List.mem_of_getElem? hd)
    exact ⟨ps, e1, wts_1 e2, e3⟩
  · have e : lo = ds.map fun d => if t d = true then some (g d) else none := List.ext_getElem? fun i => by
      rw [List.getElem?_map]
      by_cases hi : i < ds.length
      · rcases l3 i ds[i] (List.getElem?_eq_getElem hi) with ⟨a1, a2⟩ | ⟨a1, e, a2, a3⟩
        · rw [a2, List.getElem?_eq_getElem hi]; simp [a1]
        · rw [a2, List.getElem?_eq_getElem hi, a3]; simp [a1]
      · rw [List.getElem?_eq_none (by omega), List.getElem?_eq_none (by omega)]; rfl
    have e2 : es = (ds.filter t).map g := by
      rw [l2, e]; exact filt_map t g ds
    rw [e2]; exact h3
end
/-! ### statements -/
section
variable {Y : Co} {T : Tb} {Γ : Gm} {l : Sl} {M : Mem} {k : Kt} {a b c e : IE} {es fs : List IE} {x m : Str} {i n : Nat} {d : D} {r A B : List IS} {s : IS}
theorem wb_nil (q : k.nx l M) : wB Y T Γ [] l M k := by unfold wB; exact q
theorem wb_cons (h : wS Y T Γ s l M { k with nx := fun l' M' => wB Y T Γ r l' M' k }) : wB Y T Γ (s :: r) l M k := by unfold wB; exact h
theorem ws_ret (h : wE Y T Γ e l M k.rt (k.ex l)) : wS Y T Γ (.ret e) l M k := by unfold wS; exact h
theorem ws_ret0 (h : k.rt .non M) : wS Y T Γ .ret0 l M k := by unfold wS; exact h
theorem ws_set (h : wE Y T Γ e l M (fun d M1 => k.nx (l.set i (some d)) M1) (k.ex l)) : wS Y T Γ (.set i e) l M k := by unfold wS; exact h
theorem ws_unp {is : List Nat} (h : wE Y T Γ e l M (fun d M1 => ∃ ps, partsOf is.length d = some ps ∧ k.nx (setAll l is ps) M1) (k.ex l)) : wS Y T Γ (.unp is e) l M k := by unfold wS; exact h
theorem ws_par {is : List Nat} (h : wA Y T Γ es l M (fun ds M1 => ds.length = is.length ∧ k.nx (setAll l is ds) M1) (k.ex l)) : wS Y T Γ (.par is es) l M k := by unfold wS; exact h
theorem ws_drop (h : wE Y T Γ e l M (fun _ M1 => k.nx l M1) (k.ex l)) : wS Y T Γ (.drop e) l M k := by unfold wS; exact h
theorem ws_ife (h : wT Y T Γ c l M (fun t M1 => (t = true → wB Y T Γ A l M1 k) ∧ (t = false → wB Y T Γ B l M1 k)) (k.ex l)) : wS Y T Γ (.ife c A B) l M k := by unfold wS; exact h
theorem ws_for {tg : List Nat} {it : IT} (h : wI Y T Γ it l M (fun ds M1 => ∃ I : Nat → Sl → Mem → Prop, I 0 l M1 ∧
      (∀ i d l1 M2, ds[i]? = some d → I i l1 M2 → ∃ ps, partsOf tg.length d = some ps ∧ wB Y T Γ A (setAll l1 tg ps) M2 { k with nx := I (i + 1), ct := I (i + 1), bk := k.nx }) ∧
      ∀ l1 M2, I ds.length l1 M2 → k.nx l1 M2) (k.ex l)) : wS Y T Γ (.forI tg it A) l M k := by unfold wS; exact h
theorem ws_whl (h : ∃ I : Nat → Sl → Mem → Prop, (∃ m, I m l M) ∧ ∀ m l1 M1, I m l1 M1 →
      wT Y T Γ c l1 M1 (fun t M2 => (t = true → wB Y T Γ A l1 M2 { k with nx := fun l' M' => ∃ m', m' < m ∧ I m' l' M', ct := fun l' M' => ∃ m', m' < m ∧ I m' l' M', bk := k.nx }) ∧ (t = false → k.nx l1 M2)) (k.ex l1)) : wS Y T Γ (.whl c A) l M k := by unfold wS; exact h
theorem ws_fld (h : wE Y T Γ e l M (fun d M1 => wE Y T Γ a l M1 (fun x M2 => ∃ p C fs, x = .ref p ∧ M2.at p = some (.ins C fs) ∧ Cls Y.K C ∧ NoAttr Y.K C m ∧ fs.length < 1000 ∧ k.nx l (M2.put p (.ins C (putD m d fs)))) (k.ex l)) (k.ex l)) : wS Y T Γ (.fld a m e) l M k := by unfold wS; exact h
theorem ws_raise (h : ∃ C n mk, ExOk Y T x C n mk ∧ wA Y T Γ es l M (fun ds M1 => ds.length = n ∧ k.ex l C (mk ds) M1) (k.ex l)) : wS Y T Γ (.raise x es) l M k := by unfold wS; exact h
theorem ws_pass (h : k.nx l M) : wS Y T Γ .pass l M k := by unfold wS; exact h
theorem ws_brk (h : k.bk l M) : wS Y T Γ .brk l M k := by unfold wS; exact h
theorem ws_cont (h : k.ct l M) : wS Y T Γ .cont l M k := by unfold wS; exact h
theorem ws_try {body : List IS} {cs : List IC} (cvs : List Value) (hc : Paired (fun (ic : IC) cv => ∃ d, NmC Y ic.cls d cv) cs cvs) (h : wB Y T Γ body l M { k with ex := fun l' => wC Y k (cs.zip cvs) l' }) : wS Y T Γ (.tryE body cs) l M k := by unfold wS; exact ⟨cvs, hc, h⟩
/-- what a def hands back, as it is -/
theorem fz_q {Q : PD} (q : Q d M) : fzQ Q d M := ⟨M, d, .refl, q⟩
end
end Wx
set_option Elab.async false
set_option linter.all false
set_option maxRecDepth 100000
set_option maxHeartbeats 4000000
/-! Wx, part 14: pure promises; the law's end. -/
namespace Wx
open PySem L2 Fx PySem.Spec PyProof.Rows
/-- a promise that changes nothing -/
def spP (pre : List D → Prop) (post : List D → D → Prop) : Spec := fun ds M Q _ => pre ds ∧ ∀ d, post ds d → Q d M
/-- .. where nothing is one's own -/
def spE (pre : List D → Prop) (post : List D → D → Prop) : Spec := fun ds M Q _ => M = [] ∧ pre ds ∧ ∀ d, post ds d → Q d []
/-- .. where all of one's own are lists or dicts -/
def spL (G : Mem → Prop) (pre : List D → Prop) (post : List D → D → Prop) : Spec := fun ds M Q _ => G M ∧ pre ds ∧ ∀ d, post ds d → Q d M
theorem Fun.toA {K : PySem.W.Frag} {x qual : Str} {st : Stmt} {f : Addr} {fd : FuncData} (F : L2.Fun K x qual st f fd) : FunA K x qual st f fd := by
  obtain ⟨oc, od, kV, doc, pm, an, cdv, ct, osl, h⟩ := F.ex
  exact ⟨⟨oc, od, .none, kV, doc, pm, an, cdv, ct, osl, h⟩, F.kp⟩
section
variable {P : Program} {w : World} {K : PySem.W.Frag} {mg : Str → Option Value} {base : Heap} {T : Tb} {k : Nat} {f : Addr} {fd : FuncData} {ps : List Str} {sp : Spec}
theorem FnX.cx0 (F : FnX P w K mg base T k f fd ps sp) : FnG P w K mg base CX0 k f fd ps (fun vs H Q _ => spG K T sp vs H Q fun _ _ _ => False) :=
  ⟨fun vs H Q E h => F.len _ _ _ _ h, fun A outer s H args us vs Q E hr hG e0 hb hv hs => codeAny_mono (F.run A outer s H args us vs Q _ hr hG e0 hb hv hs) fun r s' h => by
    match r, h with
    | .ok (.ret u), h => exact h
    | .ok .next, h => exact h
    | .ok .brk, h => exact h
    | .ok .cont, h => exact h
    | .error e, ⟨_, _, _, _, _, _, _, _, _, _, _, _, hE⟩ => exact hE.elim⟩
/-- a pure def by its resolved body -/
theorem fnP_of {x qual : Str} {st : Stmt} {N : List Str} {ir : List IS} {Γ : Nat → Value} {us bs : List Str} {pre : List D → Prop} {post : List D → D → Prop} (F : FunA K x qual st f fd) (S : FnScope N ps (defScope st)) (G : Gl' K mg Γ us bs) (hck : ckB ⟨N, defScope st, us, bs, true⟩ ir (defBody st) = true) (len : ∀ ds, pre ds → ds.length = ps.length)
    (hbody : ∀ (Y : Co) ds M Q E, CoOk Y P w K mg base k → pre ds → (∀ d, post ds d → Q d M) → wB Y T (gm0 Γ) ir (slots0 N.length ds) M (kBody Q E)) : FnX P w K mg base T (k + 1) f fd ps (spP pre post) :=
  fnX_of F S G hck (fun ds M Q E h => len ds h.1) fun Y ds M Q E C h => hbody Y ds M Q E C h.1 h.2
end
theorem walkX {l : PySem.W.OpenLaw} {n k : Nat} {q : Program} {loose : List Str} {XP : (Str → Option Value) → Heap → Prop} {YP : World → Heap → Prop} {d : DefRec} {K : Params → PySem.W.Frag} {x : Str}
    (hn : l.most = some n) (hn2 : n ≤ sizeLine) (hdf : d.params.defaults = []) (hr : Room k callerA) (hY : ∀ (w : World) (h : Heap), YP w h → (K w.params).In h)
    (F : ∀ (w : World) (mg : Str → Option Value) (fa : Addr) (h : Heap), (K w.params).In h → h.Ns mainGlobals mg → mg d.name = some (.ref fa) →
      ∃ fd : FuncData, (∀ (s : Shared) (u : Value), BindsTo s fd ⟨[u], []⟩ [(x, u)]) ∧ ∀ base : Heap, (K w.params).In base → base.Ns mainGlobals mg →
        FnX l.prog w (K w.params) mg base [] k fa fd [x] (spE (fun ds => ∃ ns : List Int, ds = [.scr ns] ∧ ns.length ≤ n) (fun _ d => d = .bl true))) :
    PySem.W.WalkO q loose XP YP l.row.toRowW d [] (fun f vs => PySem.call f vs) := by
  refine Att.attach_call hn hdf fun w s₀ s₁ mg mb fa o pm cd doc a vs ns G Y ho hd hcd hmg hobj hints hlen hg => ?_
  have KX := hY w _ Y
  obtain ⟨fd, hb, hF⟩ := F w mg fa _ KX G.T.g hmg
  have rv : Vals (ns.map V.int) vs := vals_ints hints
  have hl : ns.length ≤ sizeLine := Nat.le_trans hlen hn2
  have want : ∀ H : Hp, (∀ b ps, H b ≠ some (.tbl ps)) → SqL (K w.params) H a (ns.map V.int) → spG (K w.params) [] (spE (fun ds => ∃ ns : List Int, ds = [.scr ns] ∧ ns.length ≤ n) (fun _ d => d = .bl true)) [.ref a] H (fun v _ => v = .bl true) fun _ _ _ => False := fun H nt hS =>
    ⟨[.scr ns], [], H, RpL.cons (by simp only [Rp]; exact ⟨a, rfl, hS⟩) RpL.nil, ⟨Ex.refl H, nt, ⟨rfl, fun i d z => by simp at z⟩, ⟨List.nodup_nil, fun p o z => by cases z⟩, fun q z => by cases z⟩, fun d _ => d = .bl true, fun _ _ _ => False, ⟨rfl, ⟨ns, rfl, hlen⟩, fun d e => e⟩,
      fun v d M' B' H' _ _ r q => by subst q; exact Rp.bl.mp r, fun _ _ _ _ _ _ _ _ _ _ _ z => z⟩
  cases hk : (K w.params).lookup a with
  | some o =>
    have e := KX a o hk
    rw [hobj] at e
    cases e
    exact lawAt KX G.T.g G.T.b G.T.builtins G.T.nolimit hg hobj hr (fun b kb nb => (hF b kb nb).cx0) hb (H := fun _ => none) (ns := ns) (fun _ => .inl rfl) (fun _ _ z => by cases z)
      (want _ (fun b ps z => by cases z) (.inr ⟨_, vs.toArray, _, hk, rfl, rfl, rfl, by rw [List.size_toArray, ← rv.length, List.length_map]; exact hl, by simpa using rv⟩))
  | none =>
    refine lawAt KX G.T.g G.T.b G.T.builtins G.T.nolimit hg hobj hr (fun b kb nb => (hF b kb nb).cx0) hb (ns := ns) (H := upd (fun _ => none) a (.frz { cls := .type "list", data := .seq vs.toArray } (.lst (ns.map V.int)))) (fun b => ?_) (fun b u z => ?_) (want _ (fun b ps z => by unfold upd at z; split at z <;> cases z) (.inl (.inr ⟨_, upd_same⟩)))
    · by_cases h : b = a
      · subst h; exact .inr ⟨rfl, hk, upd_same⟩
      · exact .inl (upd_ne h)
    · by_cases h : b = a
      · subst h
        rw [upd_same] at z
        cases z
        exact ⟨hobj, by rw [List.length_map]; exact hl, vs, _, rv, hobj⟩
      · rw [upd_ne h] at z; cases z

end Wx
set_option Elab.async false
set_option linter.all false
set_option maxRecDepth 100000
set_option maxHeartbeats 4000000
/-! Wx, part 15: own lists handed on. -/
namespace Wx
open PySem L2 Fx PySem.Spec PyProof.Rows
theorem at_head {M : Mem} {p : Addr} {o : MO} : Mem.at ((p, o) :: M) p = some o := by
  show List.lookup p ((p, o) :: M) = _
  rw [List.lookup_cons, beq_self_eq_true]
theorem put_none : ∀ {M : Mem} {p : Addr} {o : MO}, p ∉ M.ks → M.put p o = M
  | [], _, _, _ => rfl
  | (q, u) :: M, p, o, h => by
    have h1 : q ≠ p := fun e => h (by rw [← e]; exact List.mem_cons_self)
    show (if q = p then (p, o) else (q, u)) :: Mem.put M p o = _
    rw [if_neg h1, put_none fun z => h (List.mem_cons_of_mem _ z)]
theorem put_head {M : Mem} {p : Addr} {o o' : MO} (h : p ∉ M.ks) : Mem.put ((p, o) :: M) p o' = (p, o') :: M := by
  show (if p = p then (p, o') else (p, o)) :: Mem.put M p o' = _
  rw [if_pos rfl, put_none h]
theorem kd_own {M : Mem} {p : Addr} {ds : List D} (h : M.at p = some (.lst ds)) : KdM M (.ref p) "list" := by
  unfold KdM vw
  dsimp only
  rw [h]
theorem vw_own {M : Mem} {p : Addr} {ds : List D} (h : M.at p = some (.lst ds)) : vw M (.ref p) = .lst ds := by
  unfold vw
  dsimp only
  rw [h]
/-- all of one's own are lists or dicts -/
def lstM (M : Mem) : Prop := ∀ p o, M.at p = some o → (∃ ds, o = .lst ds) ∨ (∃ kv, o = .dK kv)
theorem lstM_cons {M : Mem} {p : Addr} {ds : List D} (h : lstM M) : lstM ((p, .lst ds) :: M) := fun q o e => by
  unfold Mem.at at e
  rw [List.lookup_cons] at e
  by_cases z : q = p
  · rw [z, beq_self_eq_true] at e; cases e; exact .inl ⟨_, rfl⟩
  · rw [beq_eq_false_iff_ne.mpr z] at e; exact h q o e
mutual
/-- no list, no dict within -/
def fr : D → Bool
  | .non => true
  | .bl _ => true
  | .int _ => true
  | .str _ => true
  | .ty _ => true
  | .ref _ => true
  | .tup ds => frs ds
  | .obj _ fs => frf fs
  | .lst _ => false
  | .dic _ => false
  | .pot => false
  | .scr _ => false
def frs : List D → Bool
  | [] => true
  | d :: ds => fr d && frs ds
def frf : List (Str × D) → Bool
  | [] => true
  | (_, d) :: ds => fr d && frf ds
end
theorem frs_strs : ∀ ws : List Str, frs (D.strs ws) = true
  | [] => rfl
  | w :: ws => by
    show (fr (.str w) && frs (D.strs ws)) = true
    rw [frs_strs ws]; rfl
def offs (B : Hp) (ks : List Addr) : Hp := fun a => if a ∈ ks then Option.none else B a
section
variable {K : PySem.W.Frag} {T : Tb} {l : Sl} {M : Mem} {σ : L2.St} {B H B' H' : Hp} {ks : List Addr}
theorem offs_keep (h : ∀ a ∈ ks, (∃ xs, B a = some (.lst xs)) ∨ (∃ xs, B a = some (.dK xs))) {a : Addr} {o : HO} (e : B a = some o) (n1 : ∀ xs, o ≠ .lst xs) (n2 : ∀ xs, o ≠ .dK xs) : offs B ks a = some o := by
  unfold offs
  rw [if_neg, e]
  intro z
  rcases h a z with ⟨xs, q⟩ | ⟨xs, q⟩ <;> rw [e] at q
  · exact n1 xs (Option.some.inj q)
  · exact n2 xs (Option.some.inj q)
mutual
theorem rpOff (h : ∀ a ∈ ks, (∃ xs, B a = some (.lst xs)) ∨ (∃ xs, B a = some (.dK xs))) : ∀ {d : D} {v : V}, fr d = true → Rp K B d v → Rp K (offs B ks) d v
  | .non, _, _, r => by simpa only [Rp] using r
  | .bl _, _, _, r => by simpa only [Rp] using r
  | .int _, _, _, r => by simpa only [Rp] using r
  | .str _, _, _, r => by simpa only [Rp] using r
  | .ref _, _, _, r => by simpa only [Rp] using r
  | .ty _, _, _, r => by simpa only [Rp] using r
  | .tup ds, _, f, r => by
    simp only [Rp] at r ⊢
    obtain ⟨a, xs, e1, h1, h2⟩ := r
    refine ⟨a, xs, e1, ?_, rplOff h (by simpa only [fr] using f) h2⟩
    rcases h1 with (h1 | ⟨o, h1⟩) | h1
    · exact .inl (.inl (offs_keep h h1 (fun _ z => nomatch z) (fun _ z => nomatch z)))
    · exact .inl (.inr ⟨o, offs_keep h h1 (fun _ z => nomatch z) (fun _ z => nomatch z)⟩)
    · exact .inr h1
  | .obj C fs, _, f, r => by
    simp only [Rp] at r ⊢
    obtain ⟨a, dx, gs, e1, h1, h2⟩ := r
    exact ⟨a, dx, gs, e1, offs_keep h h1 (fun _ z => nomatch z) (fun _ z => nomatch z), rpfOff h (by simpa only [fr] using f) h2⟩
  | .lst _, _, f, _ => by simp only [fr] at f; cases f
  | .dic _, _, f, _ => by simp only [fr] at f; cases f
  | .pot, _, f, _ => by simp only [fr] at f; cases f
  | .scr _, _, f, _ => by simp only [fr] at f; cases f
theorem rplOff (h : ∀ a ∈ ks, (∃ xs, B a = some (.lst xs)) ∨ (∃ xs, B a = some (.dK xs))) : ∀ {ds : List D} {vs : List V}, frs ds = true → RpL K B ds vs → RpL K (offs B ks) ds vs
  | [], _, _, r => by simpa only [RpL] using r
  | d :: ds, _, f, r => by
    simp only [RpL] at r ⊢
    simp only [frs, Bool.and_eq_true] at f
    obtain ⟨v, t, e1, h1, h2⟩ := r
    exact ⟨v, t, e1, rpOff h f.1 h1, rplOff h f.2 h2⟩
theorem rpfOff (h : ∀ a ∈ ks, (∃ xs, B a = some (.lst xs)) ∨ (∃ xs, B a = some (.dK xs))) : ∀ {ds : List (Str × D)} {vs : List (Str × V)}, frf ds = true → RpF K B ds vs → RpF K (offs B ks) ds vs
  | [], _, _, r => by simpa only [RpF] using r
  | (n, d) :: ds, _, f, r => by
    simp only [RpF] at r ⊢
    simp only [frf, Bool.and_eq_true] at f
    obtain ⟨v, t, e1, h1, h2⟩ := r
    exact ⟨v, t, e1, rpOff h f.1 h1, rpfOff h f.2 h2⟩
end
/-- a step that looked at one's own things -/
theorem StR.stepV (S : StR K T l M σ B H) (hM : lstM M) (s : Step (bp M B H) H B' H') : Go M B H M (ntB (offs B' M.ks)) H' ∧ StR K T l M σ (ntB (offs B' M.ks)) H' ∧ ∀ {d : D} {v : V}, fr d = true → Rp K B' d v → Rp K (ntB (offs B' M.ks)) d v := by
  have out : ∀ {a : Addr} {o : HO}, B a = some o → a ∉ M.ks := fun h z => by
    obtain ⟨o', e⟩ := ks_at z
    rw [(S.mm.at_ _ o' e).1] at h; cases h
  have e0 : Ex B (offs B' M.ks) := fun a o h => by
    unfold offs
    rw [if_neg (out h)]
    exact s.b a o (by unfold bp; rw [if_neg (out h)]; exact h)
  have e1 : Ex B (ntB (offs B' M.ks)) := S.nt.ex_nt e0
  have eb : Ex (offs B' M.ks) H' := fun a o h => by
    unfold offs at h
    split at h
    · cases h
    · exact s.bh a o h
  have nn : ∀ p o, M.at p = some o → offs B' M.ks p = Option.none ∧ H' p = H p := fun p o h => by
    obtain ⟨h1, h2⟩ := S.mm.at_ p o h
    obtain ⟨u, hu, _⟩ := h2.there
    exact ⟨if_pos (at_ks h), by rw [hu, s.h p u hu]⟩
  refine ⟨⟨e1, fun a o h _ _ => s.h a o h, fun a o h hb hk _ => nt_none ?_, fun a h n => absurd h n⟩, ⟨nt_le.trans eb, nt_NT _, S.sl.mono e1, ⟨S.mm.nd, fun p o h => ⟨nt_none (nn p o h).1, (S.mm.at_ p o h).2.mono e1 (nn p o h).2 (Ex.e s.h)⟩⟩, S.tb.ext s.h⟩, fun f r => rpN nt_ex (rpOff (fun a ha => ?_) f r)⟩
  · unfold offs
    rw [if_neg hk]
    exact s.nw a (by unfold bp; rw [if_neg hk]; exact hb) (by rw [h]; exact fun z => nomatch z)
  · obtain ⟨o, e⟩ := ks_at ha
    have hb : bp M B H a = H a := if_pos ha
    obtain ⟨_, m⟩ := S.mm.at_ a o e
    rcases hM a o e with ⟨ds, rfl⟩ | ⟨kv, rfl⟩
    · obtain ⟨vs, h1, _⟩ := m
      exact .inl ⟨vs, s.b a _ (hb.trans h1)⟩
    · obtain ⟨vs, h1, _⟩ := m
      exact .inr ⟨vs, s.b a _ (hb.trans h1)⟩
end
section
variable {P : Program} {w : World} {K : PySem.W.Frag} {mg : Str → Option Value} {base : Heap} {T : Tb} {k j : Nat} {f C : Addr} {fd : FuncData} {ps : List Str} {Y : Co} {M : Mem} {Q : PD} {E : PX} {pre : List D → Prop} {post : List D → D → Prop} {ds ds' : List D}
/-- a def by an older promise, one's own lists among the arguments -/
theorem cc_oldV (C' : CoOk Y P w K mg base k) (F : FnOk P w K mg base CX0 j f fd ps (spD K pre post)) (hj : j ≤ k) (hb : Binds K fd ps []) (hM : lstM M) (hv : ds.map (vw M) = ds') (hp : pre ds') (hq : ∀ d, post ds' d → fr d = true ∧ Q d M) : CC Y T (.ref f) ds M Q E := fun X l hY hc pins s σ B H vs us I S r rv Qv W tk kn kx => by
  obtain ⟨rfl, rfl, rfl, rfl, rfl, hr, hG⟩ := C'.ex hY
  subst hv
  refine wpAny_mono (runD (A' := X.A) F (hr.mono hj) rfl hb I rv S.bp_bh (S.vwL r) hp) (fun u s' ⟨v, d, B', H', I', r', st, q, z⟩ => ?_) fun _ _ e => e
  obtain ⟨g, S', z'⟩ := S.stepV hM st
  exact ⟨v, H', I', r', kn v d M _ H' g S' (z' (hq d q).1 z) (hq d q).2⟩
/-- a new instance, likewise -/
theorem cc_makeV {fs : List D → List (Str × D)} (C' : CoOk Y P w K mg base k) (Mk' : Mk K C f) (F : FnOk P w K mg base CX0 j f fd ps (spMake K C pre fs)) (hj : j + 1 ≤ k) (hb : Binds K fd ps []) (hM : lstM M) (hv : ds.map (vw M) = ds') (hp : pre ds') (hf : fr (.obj C (fs ds')) = true) (q : Q (.obj C (fs ds')) M) :
    CC Y T (.ref C) ds M Q E := fun X l hY hc pins s σ B H vs us I S r rv Qv W tk kn kx => by
  obtain ⟨rfl, rfl, rfl, rfl, rfl, hr, hG⟩ := C'.ex hY
  subst hv
  refine run_make (E := E0) Mk' F (hr.mono hj) hb .nil pass0 I rv fun y dx ny ndx hne => ?_
  rw [List.append_nil]
  refine made_of (Step.refl S.bp_bh) (S.vwL r) hp (fun v B' H' st z => ?_) y dx ny ndx hne
  obtain ⟨g, S', z'⟩ := S.stepV hM st
  exact kn v _ M _ H' g S' (z' hf z) q
end
end Wx
set_option Elab.async false
set_option linter.all false
set_option maxRecDepth 100000
set_option maxHeartbeats 4000000
/-! Wx: defs that make lambdas, defs that call what they got. -/
namespace Wx
open PySem L2 Fx PySem.Spec PyProof.Rows
abbrev TS := (Mem → PD → PX → Prop) → Addr → Mem → PD → PX → Prop
section
variable {P : Program} {w : World} {K : PySem.W.Frag} {mg : Str → Option Value} {base : Heap} {T : Tb} {k : Nat} {f : Addr} {fd : FuncData} {ps : List Str} {sp : Spec} {Γ : Nat → Value} {us bs : List Str}
/-- the def at g calls the lambda that it gets, once or more: ts says what that does -/
def ToldOk (P : Program) (w : World) (K : PySem.W.Frag) (mg : Str → Option Value) (base : Heap) (T : Tb) (k kl : Nat) (g : Value) (ts : TS) : Prop :=
  ∀ (X : Cx) (me : Me) (b : IE) (l : Sl) (M : Mem) (p : Addr) (sn : Option (Sl × L2.St)) (LC : Mem → PD → PX → Prop) (Q : PD) (E : PX), X.prog = P → X.w = w → X.K = K → X.mg = mg → X.base = base → Room k X.A → X.A.guards = some [] → X.N = me.c.N → X.env.scope = me.c.sc → X.env.cells = me.cells →
    LcOk (cof X) T kl me b l LC → M.at p = some (.lam me b sn) → (∀ σ, ts LC p (M.put p (.lam me b (some (l, σ)))) (fun d M' => ∃ M2 : Mem, M2.Sublist M' ∧ Q d M2) E) → CV X T X.A g [.ref p] l M Q E
/-- a body that calls what it got -/
def gmA (v : Nat → Value) (act : Addr → Mem → PD → PX → Prop) : Gm := ⟨v, ⟨⟨[], ⟨.function, [], false, false, []⟩, [], [], false⟩, []⟩, False, fun _ _ _ _ _ _ => False, act, fun _ _ _ _ _ => False⟩
/-- .. what it is asked -/
def tsOf (P : Program) (w : World) (K : PySem.W.Frag) (mg : Str → Option Value) (base : Heap) (T : Tb) (k n : Nat) (v : Nat → Value) (ir : List IS) : TS := fun LC p M Q E =>
  ∀ (Y : Co) (o : MO), CoOk Y P w K mg base k → M.at p = some o → wB Y T (gmA v fun p' M' Q' E' => p' = p ∧ M'.at p = some o ∧ LC M' Q' E') ir (slots0 n [.ref p]) M (kBody Q E)
theorem told_of {x qual : Str} {st : Stmt} {N : List Str} {ir : List IS} {a : Str} (F : FunA K x qual st f fd) (S : FnScope N [a] (defScope st)) (hb : Binds K fd [a] []) (G : Gl' K mg Γ us bs) (hck : ckB ⟨N, defScope st, us, bs, true⟩ ir (defBody st) = true) :
    ToldOk P w K mg base T (k + 2) k (.ref f) (tsOf P w K mg base T (k + 1) N.length Γ ir) := by
  intro X me b l M p sn LC Q E hP hw hK hm hba hr hG hN hs hc hL hp h pins s σ B H vs uu I S1 r rv Qv W tk kn kx
  subst hP hw hK hm hba
  obtain ⟨oc, od, dV, kV, doc, pm, an, cdv, ct, osl, rfl, lk, hcd⟩ := F.ex
  obtain ⟨g0, S2⟩ := S1.re (o' := .lam me b (some (l, σ))) hp (by
    obtain ⟨_, q, c', h1, h2, _⟩ := S1.mm.at_ p _ hp
    exact ⟨q, c', h1, h2, fun z e => by cases e; exact S1.sl⟩)
  have snap := snap_of I hN hs hc
  have at2 : (M.put p (.lam me b (some (l, σ)))).at p = some (.lam me b (some (l, σ))) := put_at_same (at_ks hp)
  have hl : N.length ≥ 1 := by
    have := congrArg List.length S.pre
    rw [List.length_take] at this
    simp at this
    omega
  have key : codeAny (model X.prog X.w) X.A (.call (.ref f) ⟨uu, []⟩) (CR (L2.CX X.prog X.w) X.stack X.prog X.w H s Qv (fun cls d H' => W cls d σ H')) s := by
    have hvs : vs.length = 1 := r.length.symm
    have hus : uu.length = 1 := rv.length.symm.trans hvs
    refine LamX.run_ofS lk hcd S hr I.env0 (us := uu) (by have := hb s uu I.kIn (by rw [List.append_nil]; exact hus); rwa [List.append_nil] at this) rv hvs fun hr' => ⟨_, cB, ?_⟩
    have hw := h σ (cof (cxOf (L2.CX X.prog X.w) X.prog X.w X.K X.mg X.base N qual (defScope st) f cdv X.A X.stack s H (fun cls d H' => W cls d σ H'))) _ ⟨rfl, rfl, rfl, rfl, rfl, hr', hG⟩ at2
    have fit : Fit T ⟨N, defScope st, us, bs, true⟩ (cxOf (L2.CX X.prog X.w) X.prog X.w X.K X.mg X.base N qual (defScope st) f cdv X.A X.stack s H (fun cls d H' => W cls d σ H')) (gmA Γ fun p' M' Q' E' => p' = p ∧ M'.at p = some (.lam me b (some (l, σ))) ∧ LC M' Q' E') :=
      ⟨rfl, rfl, S.nd, rfl, G.us, G.bs, fun _ _ => rfl, fun _ z => z.elim, fun _ pn xe i x hi l M p b sn Q E _ h => (h []).elim, fun _ pn xe i x p' lZ M' Q' E' pos pos' hNi hv hd hcd hlp ⟨e1, e2, e3⟩ => by
        subst e1
        exact ge_act snap hL hr' hG hNi hv hd hcd hlp e2 e3⟩
    have tk2 : Takes (cxOf (L2.CX X.prog X.w) X.prog X.w X.K X.mg X.base N qual (defScope st) f cdv X.A X.stack s H (fun cls d H' => W cls d σ H')) (fun cls d _ H' => W cls d σ H') := takes_of (E := fun cls d H' => W cls d σ H') rfl rfl rfl rfl
    refine sB fit S.kind (passes_of rfl) ⟨rfl, rfl⟩ ir (defBody st) hck hw (L2.start N vs) B H (S2.none.slots (sd_start r hl)) _ _ tk2 ?_
    have fin : ∀ {v : V} {d : D} {σ' : L2.St} {l' : Sl} {M' : Mem} {B' H' : Hp}, Go (M.put p (.lam me b (some (l, σ)))) B H M' B' H' → StR X.K T l' M' σ' B' H' → Rp X.K B' d v → fzQ (fun d M' => ∃ M2 : Mem, M2.Sublist M' ∧ Q d M2) d M' → Qv v H' := fun {v d σ' l' M' B' H'} g S' r' ⟨M2, d2, fz, M3, sub, q⟩ => by
      obtain ⟨B2, e, S3, r2, k1, k2⟩ := fz.ok S' r'
      have g2 := (g0.trans g).fz e k1 k2
      obtain ⟨g3, S4⟩ := S3.sub0 (M' := M3) (fun p o z => sub_at sub S3.mm.nd z) (S3.mm.nd.sublist (sub.map _)) fun p hp => (sub.map _).subset hp
      exact kn v d2 M3 B2 H' (g2.trans g3) (S4.slots (S1.sl.mono (g2.trans g3).b)) r2 q
    exact ⟨fun σ' l' M' B' H' g S' z => fin g S' (by simp only [Rp]) z, fun v d σ' l' M' B' H' g S' r' z => fin g S' r' z, fun _ _ _ _ _ _ _ z => z.elim, fun _ _ _ _ _ _ _ z => z.elim,
      fun σ' l' C fs M' B' H' dx gs g S' hx r' z => kx C fs M' B' H' dx gs (g0.trans g) (S'.slots (S1.sl.mono (g0.trans g).b)) hx r' z⟩
  refine wpAny_call (codeAny_mono key fun res s' hq => ?_)
  match res, hq with
  | .error e, hq => exact tk e s' (XE.of_call I (fun _ _ _ h => h) hq)
  | .ok (.ret u), hq => exact I.after hq
  | .ok .next, hq => exact hq.elim
  | .ok .brk, hq => exact hq.elim
  | .ok .cont, hq => exact hq.elim
/-- the reading of a lambda's body -/
def lcOf (P : Program) (w : World) (K : PySem.W.Frag) (mg : Str → Option Value) (base : Heap) (T : Tb) (kl : Nat) (v : Nat → Value) : IE → Sl → Mem → PD → PX → Prop := fun b l M Q E => ∀ Y, CoOk Y P w K mg base kl → wE Y T (gm0 v) b l M Q E
/-- a body that makes lambdas, at the def me -/
def gmL (v : Nat → Value) (me : Me) (told : Nat → TS) (lc : IE → Sl → Mem → PD → PX → Prop) : Gm := ⟨v, me, True, told, fun _ _ _ _ => False, lc⟩
/-- THE RULE for a def that makes lambdas -/
theorem fnL_of {x qual : Str} {st : Stmt} {N : List Str} {ir : List IS} {told : Nat → TS} {kt kl : Nat} {cd P0 : Addr} (F : FunA K x qual st f fd) (S : FnScope N ps (defScope st)) (G : Gl' K mg Γ us bs) (hck : ckB ⟨N, defScope st, us, bs, true⟩ ir (defBody st) = true) (len : ∀ ds M Q E, sp ds M Q E → ds.length = ps.length)
    (tb : LamX.TabB base mg cd P0) (code : fd.code = .ref cd) (mem : (P0, qual ++ ".<locals>." ++ "<lambda>") ∈ T) (one : ∀ p ∈ T, p.1 = P0 → p.2 = qual ++ ".<locals>." ++ "<lambda>")
    (ht : ∀ i y, us[i]? = some y → (∀ LC p M Q E, ¬ told i LC p M Q E) ∨ ToldOk P w K mg base T kt kl (Γ i) (told i)) (hkt : kt ≤ k)
    (hbody : ∀ (Y : Co) (me : Me) ds M Q E, CoOk Y P w K mg base k → sp ds M Q E → wB Y T (gmL Γ me told (lcOf P w K mg base T kl Γ)) ir (slots0 N.length ds) M (kBody Q E)) : FnX P w K mg base T (k + 1) f fd ps sp := by
  obtain ⟨oc, od, dV, kV, doc, pm, an, cdv, ct, osl, rfl, lk, hcd⟩ := F.ex
  have ecd : cdv = .ref cd := code
  subst ecd
  have len' : ∀ vs H Q E, spG K T sp vs H Q E → vs.length = ps.length := fun vs H Q E ⟨ds, M, B, r, _, _, _, h, _⟩ => r.length.symm.trans (len _ _ _ _ h)
  refine fnG_of lk hcd S len' fun A outer s H vs Qv Ev hr hG ⟨ds, M, B, r, S0, Q, E, hsp, kn, kx⟩ => ?_
  have hw := hbody (cof (cxOf (L2.CX P w) P w K mg base N qual (defScope st) f (.ref cd) A outer s H Ev)) ⟨⟨N, defScope st, us, bs, true⟩, (cxOf (L2.CX P w) P w K mg base N qual (defScope st) f (.ref cd) A outer s H Ev).env.cells⟩ ds M Q E ⟨rfl, rfl, rfl, rfl, rfl, hr, hG⟩ hsp
  have fit : Fit T ⟨N, defScope st, us, bs, true⟩ (cxOf (L2.CX P w) P w K mg base N qual (defScope st) f (.ref cd) A outer s H Ev) (gmL Γ ⟨⟨N, defScope st, us, bs, true⟩, (cxOf (L2.CX P w) P w K mg base N qual (defScope st) f (.ref cd) A outer s H Ev).env.cells⟩ told (lcOf P w K mg base T kl Γ)) := by
    refine ⟨rfl, rfl, S.nd, rfl, G.us, G.bs, fun _ _ => rfl, fun _ _ => ⟨rfl, cd, P0, tb, rfl, mem, one, rfl, rfl⟩, fun _ pn xe i y hi l M p b sn Q E hp h => ?_, fun _ pn xe i x p l M Q E pos pos' _ _ _ _ _ h => h.elim⟩
    rcases ht i y hi with z | z
    · exact absurd (h []) (z _ _ _ _ _)
    · refine z _ _ b l M p sn _ Q E rfl rfl rfl rfl rfl (hr.mono hkt) hG rfl rfl rfl (fun A' outer' s' H' E' q scope f' c' bodyE hr' hG' L hckb M' Q' EX' hLC => ?_) hp h
      have fl : Fit T { (⟨N, defScope st, us, bs, true⟩ : Ck) with sc := scope, top := false } (lamG (cof (cxOf (L2.CX P w) P w K mg base N qual (defScope st) f (.ref cd) A outer s H Ev)) N q (cloFrom (cxOf (L2.CX P w) P w K mg base N qual (defScope st) f (.ref cd) A outer s H Ev).env.cells scope.names []) A' outer' s' H' E' scope f' c') (gm0 Γ) :=
        fit0 rfl rfl S.nd rfl G.us G.bs fun z => nomatch z
      exact sE fl b bodyE hckb (hLC _ ⟨rfl, rfl, rfl, rfl, rfl, hr', hG'⟩)
  have hN : ds.length ≤ N.length := by
    rw [len _ _ _ _ hsp, ← S.pre, List.length_take]
    exact Nat.min_le_right _ _
  have tk : Takes (cxOf (L2.CX P w) P w K mg base N qual (defScope st) f (.ref cd) A outer s H Ev) (fun cls d _ H' => Ev cls d H') := takes_of (E := Ev) rfl rfl rfl rfl
  refine sB fit S.kind (passes_of rfl) ⟨rfl, rfl⟩ ir (defBody st) hck hw (L2.start N vs) B H (S0.slots (sd_start r hN)) _ _ tk ?_
  have fin : ∀ {v : V} {d : D} {σ' : L2.St} {l' : Sl} {M' : Mem} {B' H' : Hp}, Go M B H M' B' H' → StR K T l' M' σ' B' H' → Rp K B' d v → fzQ Q d M' → Qv v H' := fun {v d σ' l' M' B' H'} g S' r' ⟨M2, d2, fz, q⟩ => by
    obtain ⟨B2, e, S2, r2, k1, k2⟩ := fz.ok S' r'
    exact kn v d2 M2 B2 H' (g.fz e k1 k2) S2.none r2 q
  exact ⟨fun σ' l' M' B' H' g S' z => fin g S' (by simp only [Rp]) z, fun v d σ' l' M' B' H' g S' r' z => fin g S' r' z, fun _ _ _ _ _ _ _ z => z.elim, fun _ _ _ _ _ _ _ z => z.elim,
    fun σ' l' C fs M' B' H' dx gs g S' hx r' z => kx C fs M' B' H' dx gs g S'.none hx r' z⟩
end
section
variable {Y : Co} {T : Tb} {Γ : Gm} {l : Sl} {M : Mem} {Q : PD} {E : PX} {b a : IE} {es : List IE} {x : Str} {i : Nat}
theorem we_lam (hl : Γ.lamOk) (q : ∀ p, p ∉ M.ks → Q (.ref p) ((p, .lam Γ.me b none) :: M)) : wE Y T Γ (.lam b) l M Q E := by unfold wE; exact ⟨hl, q⟩
theorem we_pr {s : Sh} (h : wA Y T Γ es l M (fun ds M1 => PQ Γ s ds l M1 Q E) E) : wE Y T Γ (.pr s es) l M Q E := by unfold wE; exact h
/-- told(lambda: b) -/
theorem we_told (hl : Γ.lamOk) (q : ∀ p, p ∉ M.ks → ∀ σ, Γ.told i (Γ.lc b l) p ((p, .lam Γ.me b (some (l, σ))) :: M) (fun d M' => ∃ M2 : Mem, M2.Sublist M' ∧ Q d M2) E) : wE Y T Γ (.pr (.told x i) [.lam b]) l M Q E := by
  refine we_pr (wa_cons (we_lam hl fun p hp => wa_nil ⟨p, b, none, rfl, at_head, fun σ => ?_⟩))
  rw [put_head hp]
  exact q p hp σ
/-- a() -/
theorem we_act {p : Addr} (h : l[i]? = some (some (.ref p))) (q : Γ.act p M Q E) : wE Y T Γ (.pr (.act i) []) l M Q E := we_pr (wa_nil ⟨p, h, q⟩)
/-- a dict display of constants -/
theorem we_dicC {kvs : List (Key × D)} (q : Q (.dic kvs) M) : wE Y T Γ (.pr (.dicC kvs) []) l M Q E := we_pr (wa_nil q)
end
end Wx
set_option Elab.async false
set_option linter.all false
set_option maxRecDepth 100000
set_option maxHeartbeats 4000000
/-! Wx: the law's end where defs make lambdas. -/
namespace Wx
open PySem L2 Fx PySem.Spec PyProof.Rows
abbrev mtTab : Obj := { cls := .none, data := .fields #[] }
abbrev scrOb (vs : List Value) : Obj := { cls := .type "list", data := .seq vs.toArray }
theorem lawAtT {P : Program} {w : World} {K : PySem.W.Frag} {mg mb : Str → Option Value} {k : Nat} {fa a : Addr} {cs : List (Addr × Addr)} {fd : FuncData} {x : Str} {s : Shared} {vs : List Value} {ns : List Int} {H : Hp} {sp : Sp}
    (KX : K.In s.heap) (hns : s.heap.Ns mainGlobals mg) (hb : s.heap.Ns builtinsNs mb) (hbb : ∀ x : Str, x ≠ "__name__" → mb x = bootBuiltins x) (hlim : s.heap.NoLimit) (hg : s.gens = #[])
    (hT : ∀ p ∈ cs, s.heap.get? p.2 = some mtTab) (nT : ∀ p ∈ cs, K.lookup p.2 = none) (hC : ∀ p ∈ cs, PySem.W.CodeHd s.heap p.1 p.2)
    (hm : ∃ (bm : Addr) (ob : Obj), mg "__builtins__" = some (.ref bm) ∧ bm ≠ builtinsNs ∧ s.heap.get? bm = some ob ∧ ob.cls = .type "module" ∧ ob.dict = some builtinsNs ∧ ob.data = .plain)
    (ha : s.heap.get? a = some (scrOb vs)) (room : Room k callerA)
    (F : ∀ base : Heap, K.In base → base.Ns mainGlobals mg → (∀ p ∈ cs, LamX.TabB base mg p.1 p.2) → FnG P w K mg base CX0 k fa fd [x] sp) (hbind : ∀ (s : Shared) (u : Value), BindsTo s fd ⟨[u], []⟩ [(x, u)])
    (hH : ∀ b, H b = none ∨ (b = a ∧ K.lookup a = none ∧ H b = some (.frz (scrOb vs) (.lst (ns.map V.int)))) ∨ ∃ p ∈ cs, b = p.2 ∧ H b = some (.tbl #[])) (hok : HOk P w H s.heap) (hsp : sp [.ref a] H (fun v _ => v = .bl true) fun _ _ _ => False) :
    codeAny (model P w) callerA (.call (.ref fa) ⟨[.ref a], []⟩) (fun r s' => r = .ok (.ret (.bool true)) ∧ OldK s.heap s'.heap ∧ s'.os = s.os ∧ AllBare s'.gens) s := by
  have out : ∀ {b : Addr} {o : Obj}, s.heap.get? b = some o → (∀ us n, o.data ≠ .seq us n) → o.data ≠ .fields #[] → H b = none := fun {b o} e n1 n2 => by
    rcases hH b with z | ⟨z, _⟩ | ⟨p, hp, z, _⟩
    · exact z
    · rw [z, ha] at e; cases e; exact absurd rfl (n1 _ _)
    · rw [z, hT p hp] at e; cases e; exact absurd rfl n2
  have up : ∀ {b : Addr} {o : Obj}, s.heap.get? b = some o → (∀ us n, o.data ≠ .seq us n) → o.data ≠ .fields #[] → (hidT s.heap H).get? b = some o := fun e n1 n2 => hidT_get e (out e n1 n2)
  have names : ∀ {b : Addr} {m : Str → Option Value}, s.heap.Ns b m → (hidT s.heap H).Ns b m := fun {b m} ⟨o, es, ep, e, d, r⟩ =>
    ⟨o, es, ep, up e (fun us n z => by rw [d] at z; cases z) (fun z => by rw [d] at z; cases z), d, r⟩
  have kin : K.In (hidT s.heap H) := fun b o e => hidT_get (KX b o e) (by
    rcases hH b with z | ⟨z, n, _⟩ | ⟨p, hp, z, _⟩
    · exact z
    · rw [z, n] at e; cases e
    · rw [z, nT p hp] at e; cases e)
  have modl : Mod K mg (hidT s.heap H) := ⟨kin, names hns, ⟨mb, names hb, hbb⟩, let ⟨mc, h1, h2⟩ := hlim; ⟨mc, names h1, h2⟩⟩
  have tb : ∀ p ∈ cs, LamX.TabB (hidT s.heap H) mg p.1 p.2 := fun p hp => by
    have dG : ∀ {o : Obj}, s.heap.get? mainGlobals = some o → ∃ es ep, o.data = .dict es ep := fun {o} e => by
      obtain ⟨o2, es, ep, e2, d, _⟩ := hns
      rw [e] at e2; cases e2
      exact ⟨es, ep, d⟩
    refine ⟨?_, ?_, fun z => ?_⟩
    · obtain ⟨o, us, file, tf, flags, tg, inF, text, tt, e1, r1, r2, r3, r4, r5, r6, r7, r8, r9⟩ := hC p hp
      refine ⟨o, us, file, tf, flags, tg, inF, text, tt, up e1 (fun us n z => by rw [r2] at z; cases z) (fun z => ?_), r1, r2, r3, r4, r5, r6, r7, r8, r9⟩
      rw [r2] at z
      cases z
      simp at r3
    · obtain ⟨bm, ob, b1, b2, b3, b4, b5, b6⟩ := hm
      refine ⟨bm, ob, b1, b2, fun z => ?_, fun z => ?_, up b3 (fun us n z => by rw [b6] at z; cases z) (fun z => by rw [b6] at z; cases z), b4, b5, b6⟩
      · rw [z] at b3
        obtain ⟨es, ep, d⟩ := dG b3
        rw [b6] at d; cases d
      · rw [z, hT p hp] at b3; cases b3; cases b6
    · obtain ⟨es, ep, d⟩ := dG (by rw [z]; exact hT p hp)
      cases d
  have env0 : Env0 P w K mg (hidT s.heap H) callerA [] s H := ⟨rfl, modl, fun b o e => of_hidT e, Nat.le_of_eq (hidT_size _ _), trivial, fun b z => absurd (show b ∈ ([] : List Addr) from z) List.not_mem_nil, hok, .of_eq hg⟩
  refine codeAny_mono ((F _ kin (names hns) tb).run callerA [] s H ⟨[.ref a], []⟩ [.ref a] [.ref a] _ _ room rfl env0 (hbind s (.ref a)) (.cons rfl .nil) hsp) fun r s' h => ?_
  match r, h with
  | .error e, h => exact False.elim h
  | .ok .next, h => exact False.elim h
  | .ok .brk, h => exact False.elim h
  | .ok .cont, h => exact False.elim h
  | .ok (.ret u), ⟨v, H', os, bare, un, hok', ru, q⟩ =>
    have q' : v = .bl true := q
    subst q'
    cases (show u = Value.bool true from ru)
    have same : ∀ b o, (∀ p ∈ cs, b ≠ p.2) → s.heap.get? b = some o → s'.heap.get? b = some o := fun b o nb e => by
      rcases hH b with n | ⟨_, _, z⟩ | ⟨p, hp, z, _⟩
      · exact un.keep b o e n (fun z => absurd (show b ∈ ([] : List Addr) from z) List.not_mem_nil) List.not_mem_nil
      · have z2 := un.frzs b _ _ z
        have h1 := (hok b _ z).1
        have h2 := (hok' b _ z2).1
        rw [e] at h1
        rw [h2, ← h1]
      · exact absurd z (nb p hp)
    have grown : ∀ p ∈ cs, ∃ more : Array Value, s'.heap.get? p.2 = some { cls := .none, data := .fields more } := fun p hp => by
      rcases hH p.2 with n | ⟨z, _⟩ | ⟨_, _, _, z⟩
      · exact ⟨#[], un.keep _ _ (hT p hp) n (fun z => absurd (show p.2 ∈ ([] : List Addr) from z) List.not_mem_nil) List.not_mem_nil⟩
      · have e := hT p hp
        rw [z, ha] at e
        cases e
      · obtain ⟨more, z2⟩ := un.tbls p.2 _ z
        exact ⟨_, hok' p.2 _ z2⟩
    refine ⟨rfl, ⟨fun b o e => ?_, fun b o e => ?_⟩, os, bare⟩
    · by_cases nb : ∀ p ∈ cs, b ≠ p.2
      · exact .inl (same b o nb e)
      · obtain ⟨p, z⟩ := Classical.not_forall.mp nb
        obtain ⟨hp, z⟩ := Classical.not_imp.mp z
        have z := Classical.not_not.mp z
        subst z
        obtain ⟨more, e2⟩ := grown p hp
        rw [hT p hp] at e
        cases e
        exact .inr (.inl ⟨((hC p hp).tab (hT p hp)).isCodeTable, rfl, #[], more, rfl, by rw [Array.empty_append]; exact e2⟩)
    · by_cases nb : ∀ p ∈ cs, b ≠ p.2
      · exact ⟨o, same b o nb e⟩
      · obtain ⟨p, z⟩ := Classical.not_forall.mp nb
        obtain ⟨hp, z⟩ := Classical.not_imp.mp z
        have z := Classical.not_not.mp z
        subst z
        obtain ⟨more, e2⟩ := grown p hp
        exact ⟨_, e2⟩
/-- the law's end: what the head tells gives K, the defs' tables, the law's promise -/
theorem walkT {l : PySem.W.OpenLaw} {n k : Nat} {q : Program} {loose : List Str} {XP : (Str → Option Value) → Heap → Prop} {YP : World → Heap → Prop} {d : DefRec} {x : Str}
    (hn : l.most = some n) (hn2 : n ≤ sizeLine) (hdf : d.params.defaults = []) (hr : Room k callerA)
    (F : ∀ (w : World) (mg : Str → Option Value) (fa : Addr) (h : Heap), YP w h → h.Ns mainGlobals mg → mg d.name = some (.ref fa) → ∃ K : PySem.W.Frag, K.In h ∧ ∃ (fd : FuncData) (cs : List (Addr × Addr)) (T : Tb),
      (∀ p ∈ cs, h.get? p.2 = some mtTab) ∧ (∀ p ∈ cs, K.lookup p.2 = none) ∧ (∀ p ∈ cs, PySem.W.CodeHd h p.1 p.2) ∧ (∀ t ∈ T, ∃ p ∈ cs, t.1 = p.2) ∧ (∀ (s : Shared) (u : Value), BindsTo s fd ⟨[u], []⟩ [(x, u)]) ∧
      ∀ base : Heap, K.In base → base.Ns mainGlobals mg → (∀ p ∈ cs, LamX.TabB base mg p.1 p.2) → FnX l.prog w K mg base T k fa fd [x] (spE (fun ds => ∃ ns : List Int, ds = [.scr ns] ∧ ns.length ≤ n) (fun _ d => d = .bl true))) :
    PySem.W.WalkO q loose XP YP l.row.toRowW d [] (fun f vs => PySem.call f vs) := by
  refine Att.attach_call hn hdf fun w s₀ s₁ mg mb fa o pm cd doc a vs ns G Y ho hd hcd hmg hobj hints hlen hg => ?_
  obtain ⟨K, KX, fd, cs, T, hT, nT, hC, hTT, hb, hF⟩ := F w mg fa _ Y G.T.g hmg
  have rv : Vals (ns.map V.int) vs := vals_ints hints
  have hl : ns.length ≤ sizeLine := Nat.le_trans hlen hn2
  have naT : ∀ p ∈ cs, p.2 ≠ a := fun p hp z => by
    have e := hT p hp
    rw [z, hobj] at e
    cases e
  have want : ∀ H : Hp, (∀ p ∈ cs, H p.2 = some (.tbl #[])) → SqL K (ntB H) a (ns.map V.int) → spG K T (spE (fun ds => ∃ ns : List Int, ds = [.scr ns] ∧ ns.length ≤ n) (fun _ d => d = .bl true)) [.ref a] H (fun v _ => v = .bl true) fun _ _ _ => False := fun H hHT hS =>
    ⟨[.scr ns], [], ntB H, RpL.cons (by simp only [Rp]; exact ⟨a, rfl, hS⟩) RpL.nil, ⟨nt_le, nt_NT H, ⟨rfl, fun i d z => by simp at z⟩, ⟨List.nodup_nil, fun p o z => by cases z⟩, fun t ht => by
      obtain ⟨p, hp, e⟩ := hTT t ht
      exact LamX.TabS.nil (by rw [e]; exact hHT p hp)⟩, fun d _ => d = .bl true, fun _ _ _ => False, ⟨rfl, ⟨ns, rfl, hlen⟩, fun d e => e⟩, fun v d M' B' H' _ _ r q => by subst q; exact Rp.bl.mp r, fun _ _ _ _ _ _ _ _ _ _ _ z => z⟩
  let HT : Hp := fun b => if b ∈ cs.map (·.2) then some (.tbl #[]) else none
  have hHT : ∀ p ∈ cs, HT p.2 = some (.tbl #[]) := fun p hp => if_pos (List.mem_map.mpr ⟨p, hp, rfl⟩)
  have okT : ∀ b u, HT b = some u → ∃ p ∈ cs, b = p.2 ∧ u = .tbl #[] := fun b u z => by
    by_cases h : b ∈ cs.map (·.2)
    · obtain ⟨p, hp, e⟩ := List.mem_map.mp h
      exact ⟨p, hp, e.symm, Option.some.inj (z.symm.trans (if_pos h))⟩
    · exact absurd (z.symm.trans (if_neg h)) (fun z => nomatch z)
  cases hk : K.lookup a with
  | some o =>
    have e := KX a o hk
    rw [hobj] at e
    cases e
    refine lawAtT KX G.T.g G.T.b G.T.builtins G.T.nolimit hg hT nT hC G.T.bmain hobj hr (fun b kb nb tb => (hF b kb nb tb).cx0) hb (H := HT) (ns := ns) (fun b => ?_) (fun b u z => ?_)
      (want _ hHT (.inr ⟨_, vs.toArray, _, hk, rfl, rfl, rfl, by rw [List.size_toArray, ← rv.length, List.length_map]; exact hl, by simpa using rv⟩))
    · cases z : HT b with
      | none => exact .inl rfl
      | some u =>
        obtain ⟨p, hp, e1, e2⟩ := okT b u z
        exact .inr (.inr ⟨p, hp, e1, by rw [e2]⟩)
    · obtain ⟨p, hp, e1, e2⟩ := okT b u z
      subst e1 e2
      exact hT p hp
  | none =>
    have e1 : upd HT a (.frz (scrOb vs) (.lst (ns.map V.int))) a = some (.frz (scrOb vs) (.lst (ns.map V.int))) := upd_same
    refine lawAtT KX G.T.g G.T.b G.T.builtins G.T.nolimit hg hT nT hC G.T.bmain hobj hr (fun b kb nb tb => (hF b kb nb tb).cx0) hb (ns := ns) (H := upd HT a (.frz (scrOb vs) (.lst (ns.map V.int)))) (fun b => ?_) (fun b u z => ?_)
      (want _ (fun p hp => by rw [upd_ne (naT p hp)]; exact hHT p hp) (.inl (.inr ⟨scrOb vs, nt_some e1 fun _ z => nomatch z⟩)))
    · by_cases h : b = a
      · subst h; exact .inr (.inl ⟨rfl, hk, upd_same⟩)
      · rw [upd_ne h]
        cases z : HT b with
        | none => exact .inl rfl
        | some u =>
          obtain ⟨p, hp, e1, e2⟩ := okT b u z
          exact .inr (.inr ⟨p, hp, e1, by rw [e2]⟩)
    · by_cases h : b = a
      · subst h
        rw [upd_same] at z
        cases z
        exact ⟨hobj, by rw [List.length_map]; exact hl, vs, _, rv, hobj⟩
      · rw [upd_ne h] at z
        obtain ⟨p, hp, e1, e2⟩ := okT b u z
        subst e1 e2
        exact hT p hp
end Wx
set_option Elab.async false
set_option linter.all false
set_option maxRecDepth 100000
set_option maxHeartbeats 4000000
/-! Wx: == and != of equal data, dicts and things of one's own within it. -/
namespace Wx
open PySem L2 Fx PySem.Spec PyProof.Rows PySem.SeqAt
open AutoSeq1 (wpAny_loadPart')
open MeetsSeq MeetsSeq2 MeetsSeq3 SeqRoads2
section
variable {prog : Program} {w : World}
abbrev lstOb (dd : Option Addr) (us : Array Value) (n : Nat) (sl : Array (Option Value)) : Obj := { cls := .type "list", dict := dd, data := .seq us n, slots := sl }
abbrev tupOb (dd : Option Addr) (us : Array Value) (n : Nat) (sl : Array (Option Value)) : Obj := { cls := .type "tuple", dict := dd, data := .seq us n, slots := sl }
/-- != of two lists of items that are all equal: the walk from the i-th on -/
theorem ne_turns (p q : Addr) (us vs : Array Value) (n m : Nat) (dp dq : Option Addr) (sp sq : Array (Option Value)) (sz : us.size = vs.size) (left : Nat) :
    ∀ i : Nat, us.size - i = left → MeetsIn prog w (Builtin.«list.__eq__.loop» ⟨[.ref p, .ref q, rawInt i, rawInt 3], []⟩)
      (fun A R s => s.heap.get? p = some (lstOb dp us n sp) ∧ s.heap.get? q = some (lstOb dq vs m sq) ∧ (∀ j (h1 : j < us.size) (h2 : j < vs.size), EqP prog w A.in1 s us[j] vs[j] true) ∧ R (.ok (.ret (.bool false))) s) := by
  induction left with
  | zero =>
    intro i hi A R s ⟨e1, e2, each, done⟩
    obtain ⟨hp, gg, dd, tk, oo⟩ := s
    wp_walk using wpAny_loadPart' e1, wpAny_loadPart' e2
    rw [show us[((i : Nat) : Int).toNat]? = none from by simp; omega, show vs[((i : Nat) : Int).toNat]? = none from by simp; omega]
    wp_walk using wpAny_loadPart' e1, wpAny_loadPart' e2
    show R (.ok (.ret (.bool (us.size != vs.size)))) _
    rw [sz]
    simpa using done
  | succ left ih =>
    intro i hi A R s ⟨e1, e2, each, done⟩
    obtain ⟨hp, gg, dd, tk, oo⟩ := s
    wp_walk using wpAny_loadPart' e1, wpAny_loadPart' e2
    have l1 : i < us.size := by omega
    have l2 : i < vs.size := by omega
    rw [show us[((i : Nat) : Int).toNat]? = some us[i] from by simp [l1], show vs[((i : Nat) : Int).toNat]? = some vs[i] from by simp [l2]]
    refine wpAny_bind (each i l1 l2 _ _ ?_)
    wp_walk
    rw [show ((i : Int) + 1) = ((i + 1 : Nat) : Int) from by push_cast; rfl]
    exact ⟨plainId_quiet plain_eq_loop _, codeAny_builtin entry_eq_loop (by
      rw [Around.under_plainId plain_eq_loop _]
      exact ih (i + 1) (by omega) A R _ ⟨e1, e2, each, done⟩)⟩
theorem ne_same (p q : Addr) (us vs : Array Value) (n m : Nat) (dp dq : Option Addr) (sp sq : Array (Option Value)) (sz : us.size = vs.size) :
    MeetsIn prog w (Builtin.«list.__ne__» ⟨[.ref p, .ref q], []⟩)
      (fun A R s => s.heap.get? p = some (lstOb dp us n sp) ∧ s.heap.get? q = some (lstOb dq vs m sq) ∧ (∀ j (h1 : j < us.size) (h2 : j < vs.size), EqP prog w A.in1 s us[j] vs[j] true) ∧ R (.ok (.ret (.bool false))) s) := by
  intro A R s ⟨e1, e2, each, done⟩
  obtain ⟨hp, gg, dd, tk, oo⟩ := s
  have sub := AutoSeq1.sub_list_list
  have szb : ¬ (us.size != vs.size) = true := by simp [sz]
  wp_walk using wpAny_loadPart' e1, wpAny_loadPart' e2
  exact ⟨plainId_quiet plain_eq_loop _, codeAny_builtin entry_eq_loop (by
    rw [Around.under_plainId plain_eq_loop _]
    exact ne_turns p q us vs n m dp dq sp sq sz _ 0 rfl A R _ ⟨e1, e2, each, done⟩)⟩
theorem rc_ne_lists {A : Around} {s : Shared} {p q : Addr} {us vs : Array Value} (hp : s.heap.IsList p us) (hq : s.heap.IsList q vs) (sz : us.size = vs.size) (hu : A.units < cLine)
    (each : ∀ j (h1 : j < us.size) (h2 : j < vs.size), EqP prog w A.in1 s us[j] vs[j] true) (E Q : Value → Shared → Prop) (done : Q (.bool false) s) : wpAny (model prog w) A (richCompare .NotEq (.ref p) (.ref q)) Q E s := by
  obtain ⟨⟨c1, d1, dt1, sl1⟩, g1, k1, n1, x1⟩ := hp
  obtain ⟨⟨c2, d2, dt2, sl2⟩, g2, k2, n2, x2⟩ := hq
  simp only at k1 x1 k2 x2
  subst k1 x1 k2 x2
  have t1 : s.TypeIs (.ref p) "list" := ⟨_, g1, rfl⟩
  exact wpAny_richCompare_same_room (op := .NotEq) t1 ⟨_, g2, rfl⟩ F.slot_list_ne (call_meetsIn F.slot_list_ne t1 F.entry_list_ne (F.args_list_ne_2 _ _) (ne_same p q us vs n1 n2 d1 d2 sl1 sl2 sz)
    ⟨g1, g2, each, show Value.bool false ≠ Value.notImplemented ∧ Q (.bool false) s from ⟨(fun z => nomatch z), done⟩⟩) hu
/-- == of two tuples of items that are all equal -/
theorem tup_same (p q : Addr) (us vs : Array Value) (n m : Nat) (dp dq : Option Addr) (sp sq : Array (Option Value)) (sz : us.size = vs.size) :
    MeetsIn prog w (Builtin.«tuple.__eq__» ⟨[.ref p, .ref q], []⟩)
      (fun A R s => s.heap.get? p = some (tupOb dp us n sp) ∧ s.heap.get? q = some (tupOb dq vs m sq) ∧ (∀ j (h1 : j < us.size) (h2 : j < vs.size), EqP prog w A.in1 s us[j] vs[j] true) ∧ R (.ok (.ret (.bool true))) s) :=
  .of_wp fun A R s ⟨e1, e2, each, done⟩ => by
    obtain ⟨hp, gg, dd, tk, oo⟩ := s
    have sub := AutoSeq1.sub_tuple_tuple
    have len : (us.toList.zip vs.toList).length = us.size := by simp [sz]
    wp_walk using wpAny_loadPart' e1, wpAny_loadPart' e2, wpAny_forIn_list _ (fun rest b s' => b.1 = none ∧ s' = ⟨hp, gg, dd, tk, oo⟩ ∧ ∃ i, rest = (us.toList.zip vs.toList).drop i) _
    case turn =>
      rintro ⟨y, x⟩ rest b s' ⟨hb', rfl, i, hz⟩
      have lt : i < (us.toList.zip vs.toList).length := by
        rcases Nat.lt_or_ge i (us.toList.zip vs.toList).length with z | z
        · exact z
        · rw [List.drop_of_length_le z] at hz; cases hz
      have l1 : i < us.size := len ▸ lt
      have l2 : i < vs.size := sz ▸ l1
      rw [List.drop_eq_getElem_cons lt] at hz
      injection hz with hyx hrest
      have hy : y = us[i] := by simpa using congrArg Prod.fst hyx
      have hx : x = vs[i] := by simpa using congrArg Prod.snd hyx
      subst hy hx
      refine wpAny_bind (each i l1 l2 _ _ ?_)
      wp_walk
      exact ⟨rfl, rfl, i + 1, hrest⟩
    case fin =>
      rintro ⟨b1, b2⟩ s' ⟨hb', rfl, i, hz⟩
      simp only at hb'
      subst hb'
      wp_walk
      exact ⟨_, rfl, by simpa [Builtin.Tuple.tupleCompareSizes, sz] using done⟩
    case h => exact ⟨rfl, rfl, 0, rfl⟩
theorem rc_eq_tuples {A : Around} {s : Shared} {p q : Addr} {us vs : Array Value} (hp : s.heap.IsTuple p us) (hq : s.heap.IsTuple q vs) (sz : us.size = vs.size) (hu : A.units < cLine)
    (each : ∀ j (h1 : j < us.size) (h2 : j < vs.size), EqP prog w A.in1 s us[j] vs[j] true) (E Q : Value → Shared → Prop) (done : Q (.bool true) s) : wpAny (model prog w) A (richCompare .Eq (.ref p) (.ref q)) Q E s := by
  obtain ⟨⟨c1, d1, dt1, sl1⟩, g1, k1, n1, x1⟩ := hp
  obtain ⟨⟨c2, d2, dt2, sl2⟩, g2, k2, n2, x2⟩ := hq
  simp only at k1 x1 k2 x2
  subst k1 x1 k2 x2
  have t1 : s.TypeIs (.ref p) "tuple" := ⟨_, g1, rfl⟩
  exact wpAny_richCompare_same_room (op := .Eq) t1 ⟨_, g2, rfl⟩ F.slot_tuple_eq (call_meetsIn F.slot_tuple_eq t1 F.entry_tuple_eq (F.args_tuple_eq_2 _ _) (tup_same p q us vs n1 n2 d1 d2 sl1 sl2 sz)
    ⟨g1, g2, each, show Value.bool true ≠ Value.notImplemented ∧ Q (.bool true) s from ⟨(fun z => nomatch z), done⟩⟩) hu
end
end Wx
set_option Elab.async false
set_option linter.all false
set_option maxRecDepth 100000
set_option maxHeartbeats 4000000
/-! Wx: == and != of equal data, by data. -/
namespace Wx
open PySem L2 Fx PySem.Spec PyProof.Rows PySem.SeqAt
mutual
/-- of such data two equal ones are told as equal -/
def eqb : D → Bool
  | .lst ds => eqbs ds
  | .tup ds => eqbs ds
  | .dic kvs => eqbk kvs
  | .obj _ _ => false
  | .pot => false
  | .scr _ => false
  | _ => true
def eqbs : List D → Bool
  | [] => true
  | d :: ds => eqb d && eqbs ds
def eqbk : List (Key × D) → Bool
  | [] => true
  | (_, d) :: ds => eqb d && eqbk ds
end
mutual
/-- how deep -/
def dpt : D → Nat
  | .lst ds => dpts ds + 1
  | .tup ds => dpts ds + 1
  | .dic kvs => dptk kvs + 1
  | _ => 1
def dpts : List D → Nat
  | [] => 0
  | d :: ds => max (dpt d) (dpts ds)
def dptk : List (Key × D) → Nat
  | [] => 0
  | (_, d) :: ds => max (dpt d) (dptk ds)
end
theorem rpk_length {K : PySem.W.Frag} {B : Hp} : ∀ {ds : List (Key × D)} {xs : List (Key × V)}, RpK K B ds xs → ds.length = xs.length
  | [], xs, h => by simp only [RpK] at h; subst h; rfl
  | (f, d) :: ds, xs, h => by
    simp only [RpK] at h
    obtain ⟨v, r, rfl, _, h2⟩ := h
    simp only [List.length_cons, rpk_length h2]
theorem valueAt_mem {vs : List (Key × Value)} (nd : (vs.map (·.1)).Nodup) {k : Key} {v : Value} (h : (k, v) ∈ vs) : valueAt vs k = some v := by
  induction vs with
  | nil => cases h
  | cons p vs ih =>
    have nd' := List.nodup_cons.mp nd
    rcases List.mem_cons.mp h with z | z
    · subst z
      simp [valueAt, List.find?_cons]
    · have ne : ¬ p.1 = k := fun e => nd'.1 (by show p.1 ∈ _; rw [e]; exact List.mem_map.mpr ⟨_, z, rfl⟩)
      have := ih nd'.2 z
      unfold valueAt at this ⊢
      rw [List.find?_cons, decide_eq_false ne]
      exact this
section
variable {X : Cx} {pins : List (Addr × Obj)} {σ : L2.St} {B H : Hp} {s : Shared}
mutual
theorem eqP_D (I : Inv X pins σ H s) (e : Ex B H) : ∀ (d : D) (A : Around) (v u : V) (vv uu : Value), eqb d = true → A.units + dpt d < cLine → Rp X.K B d v → Rp X.K B d u → RelV v vv → RelV u uu → EqP X.prog X.w A s vv uu true
  | .non, A, v, u, vv, uu, _, _, r1, r2, rv, ru => by rw [Rp.non.mp r1] at rv; rw [Rp.non.mp r2] at ru; exact (eqAt_same rv ru rfl).eqP
  | .bl b, A, v, u, vv, uu, _, _, r1, r2, rv, ru => by rw [Rp.bl.mp r1] at rv; rw [Rp.bl.mp r2] at ru; exact (eqAt_same rv ru rfl).eqP
  | .int i, A, v, u, vv, uu, _, _, r1, r2, rv, ru => by rw [Rp.int.mp r1] at rv; rw [Rp.int.mp r2] at ru; exact (eqAt_same rv ru rfl).eqP
  | .str z, A, v, u, vv, uu, _, _, r1, r2, rv, ru => by rw [Rp.str.mp r1] at rv; rw [Rp.str.mp r2] at ru; exact (eqAt_same rv ru rfl).eqP
  | .ref a, A, v, u, vv, uu, _, _, r1, r2, rv, ru => by
    simp only [Rp] at r1 r2
    subst r1 r2
    cases (show vv = Value.ref a from rv)
    cases (show uu = Value.ref a from ru)
    exact (EqAt.same _).eqP
  | .ty n, A, v, u, vv, uu, _, _, r1, r2, rv, ru => by
    simp only [Rp] at r1 r2
    subst r1 r2
    cases (show vv = Value.type n from rv)
    cases (show uu = Value.type n from ru)
    exact (EqAt.same _).eqP
  | .lst ds, A, v, u, vv, uu, h, hu, r1, r2, rv, ru => by
    obtain ⟨a, xs, rfl, h1, h2⟩ := Rp.lst.mp r1
    obtain ⟨b, ys, rfl, h3, h4⟩ := Rp.lst.mp r2
    cases (show vv = Value.ref a from rv)
    cases (show uu = Value.ref b from ru)
    by_cases ab : a = b
    · subst ab; exact (EqAt.same _).eqP
    · obtain ⟨us, q1, p1, _⟩ := I.list (SqL.of (e _ _ h1))
      obtain ⟨ws, q2, p2, _⟩ := I.list (SqL.of (e _ _ h3))
      simp only [dpt] at hu
      have sz : us.toArray.size = ws.toArray.size := by
        rw [List.size_toArray, List.size_toArray, ← q1.length, ← q2.length, ← h2.length, ← h4.length]
      refine eqP_refs ab fun E Q done => rcP_lists (e := fun _ => true) p1.isList p2.isList sz (by omega) (fun j j1 j2 => ?_) E Q (by rw [show ((List.range us.toArray.size).all fun _ => true) = true from by simp]; exact done)
      have k := eqs_D I e ds A.in1 xs ys us ws (by simpa only [eqb] using h) (by show A.units + 1 + _ < _; omega) h2 h4 q1 q2 j (by simpa using j1) (by simpa using j2)
      simpa using k
  | .tup ds, A, v, u, vv, uu, h, hu, r1, r2, rv, ru => by
    obtain ⟨a, xs, rfl, h1, h2⟩ := Rp.tup.mp r1
    obtain ⟨b, ys, rfl, h3, h4⟩ := Rp.tup.mp r2
    cases (show vv = Value.ref a from rv)
    cases (show uu = Value.ref b from ru)
    by_cases ab : a = b
    · subst ab; exact (EqAt.same _).eqP
    · obtain ⟨us, q1, p1, _⟩ := I.tuple (e.t h1)
      obtain ⟨ws, q2, p2, _⟩ := I.tuple (e.t h3)
      simp only [dpt] at hu
      have sz : us.toArray.size = ws.toArray.size := by
        rw [List.size_toArray, List.size_toArray, ← q1.length, ← q2.length, ← h2.length, ← h4.length]
      refine eqP_refs ab fun E Q done => rc_eq_tuples p1 p2 sz (by omega) (fun j j1 j2 => ?_) E Q done
      have k := eqs_D I e ds A.in1 xs ys us ws (by simpa only [eqb] using h) (by show A.units + 1 + _ < _; omega) h2 h4 q1 q2 j (by simpa using j1) (by simpa using j2)
      simpa using k
  | .dic kvs, A, v, u, vv, uu, h, hu, r1, r2, rv, ru => by
    simp only [Rp] at r1 r2
    obtain ⟨a, xs, rfl, h1, h2⟩ := r1
    obtain ⟨b, ys, rfl, h3, h4⟩ := r2
    cases (show vv = Value.ref a from rv)
    cases (show uu = Value.ref b from ru)
    by_cases ab : a = b
    · subst ab; exact (EqAt.same _).eqP
    · obtain ⟨_, ya, va, ra, da⟩ := dk_rd I.hok (e.rd h1)
      obtain ⟨_, yb, vb, rb, db⟩ := dk_rd I.hok (e.rd h3)
      simp only [dpt] at hu
      have nd : (vb.map (·.1)).Nodup := by
        obtain ⟨_, _, _, _, _, _, _, _, nd⟩ := db
        exact nd
      have len : va.length = vb.length := by
        rw [← ra.length, ← rb.length, ← rpk_length h2, ← rpk_length h4]
      refine eqP_refs ab fun E Q done => PySem.W.rcP_dicts (knd := mixKind X.prog X.w) (r := true) ya yb da db (by omega) (fun _ => ?_) E Q (by rw [show (va.length == vb.length && true) = true from by rw [len]; simp]; exact done)
      exact eqk_D I e kvs A.in1 xs ys va vb (by simpa only [eqb] using h) (by show A.units + 1 + _ < _; omega) h2 h4 ra rb vb (fun k v z => valueAt_mem nd z)
  | .obj _ _, _, _, _, _, _, h, _, _, _, _, _ => by simp only [eqb] at h; cases h
  | .pot, _, _, _, _, _, h, _, _, _, _, _ => by simp only [eqb] at h; cases h
  | .scr _, _, _, _, _, _, h, _, _, _, _, _ => by simp only [eqb] at h; cases h
theorem eqs_D (I : Inv X pins σ H s) (e : Ex B H) : ∀ (ds : List D) (A : Around) (xs ys : List V) (us ws : List Value), eqbs ds = true → A.units + dpts ds < cLine → RpL X.K B ds xs → RpL X.K B ds ys → Vals xs us → Vals ys ws → ∀ j (h1 : j < us.length) (h2 : j < ws.length), EqP X.prog X.w A s us[j] ws[j] true
  | [], A, xs, ys, us, ws, _, _, r1, r2, q1, q2, j, h1, h2 => by
    simp only [RpL] at r1
    subst r1
    cases q1
    exact absurd h1 (Nat.not_lt_zero j)
  | d :: ds, A, xs, ys, us, ws, h, hu, r1, r2, q1, q2, j, h1, h2 => by
    simp only [RpL] at r1 r2
    obtain ⟨x, xs, rfl, a1, a2⟩ := r1
    obtain ⟨y, ys, rfl, b1, b2⟩ := r2
    simp only [eqbs, Bool.and_eq_true] at h
    simp only [dpts] at hu
    cases q1 with
    | cons c1 c2 =>
      cases q2 with
      | cons d1 d2 =>
        cases j with
        | zero => exact eqP_D I e d A _ _ _ _ h.1 (by omega) a1 b1 c1 d1
        | succ j => exact eqs_D I e ds A xs ys _ _ h.2 (by omega) a2 b2 c2 d2 j (Nat.lt_of_succ_lt_succ h1) (Nat.lt_of_succ_lt_succ h2)
theorem eqk_D (I : Inv X pins σ H s) (e : Ex B H) : ∀ (ds : List (Key × D)) (A : Around) (xs ys : List (Key × V)) (us ws : List (Key × Value)), eqbk ds = true → A.units + dptk ds < cLine → RpK X.K B ds xs → RpK X.K B ds ys → KV xs us → KV ys ws → ∀ (all : List (Key × Value)), (∀ k v, (k, v) ∈ ws → valueAt all k = some v) → PySem.W.KeqHitsP X.prog X.w A s all us true
  | [], A, xs, ys, us, ws, _, _, r1, r2, q1, q2, all, _ => by
    simp only [RpK] at r1
    subst r1
    cases q1
    exact .nil
  | (k, d) :: ds, A, xs, ys, us, ws, h, hu, r1, r2, q1, q2, all, look => by
    simp only [RpK] at r1 r2
    obtain ⟨x, xs, rfl, a1, a2⟩ := r1
    obtain ⟨y, ys, rfl, b1, b2⟩ := r2
    simp only [eqbk, Bool.and_eq_true] at h
    simp only [dptk] at hu
    cases q1 with
    | cons c1 c2 =>
      cases q2 with
      | cons d1 d2 =>
        rename_i p ps q qs
        obtain ⟨pk, pv⟩ := p
        obtain ⟨qk, qv⟩ := q
        obtain ⟨c0, c1⟩ := c1
        obtain ⟨d0, d1⟩ := d1
        cases c0
        cases d0
        show PySem.W.KeqHitsP X.prog X.w A s all ((k, pv) :: ps) (true && true)
        exact .hit (look k qv List.mem_cons_self) (eqP_D I e d A _ _ _ _ h.1 (by omega) a1 b1 c1 d1) (eqk_D I e ds A xs ys _ _ h.2 (by omega) a2 b2 c2 d2 all fun k v z => look k v (List.mem_cons_of_mem _ z))
end
end
section
variable {X : Cx} {d : D}
def isSq : D → Bool
  | .lst _ => true
  | .tup _ => true
  | _ => false
theorem dpts_le {n : Nat} : ∀ {ds : List D}, (∀ d ∈ ds, dpt d ≤ n) → dpts ds ≤ n
  | [], _ => Nat.zero_le _
  | d :: ds, h => by
    simp only [dpts]
    have h1 := h d List.mem_cons_self
    have h2 := dpts_le fun d hd => h d (List.mem_cons_of_mem _ hd)
    omega
theorem eqbs_all : ∀ {ds : List D}, (∀ d ∈ ds, eqb d = true) → eqbs ds = true
  | [], _ => rfl
  | d :: ds, h => by
    simp only [eqbs, Bool.and_eq_true]
    exact ⟨h d List.mem_cons_self, eqbs_all fun d hd => h d (List.mem_cons_of_mem _ hd)⟩
theorem sq_ref (h : isSq d = true) {K : PySem.W.Frag} {B : Hp} {v : V} (r : Rp K B d v) : ∃ a, v = .ref a := by
  cases d with
  | lst ds => obtain ⟨a, xs, e, _⟩ := Rp.lst.mp r; exact ⟨a, e⟩
  | tup ds => obtain ⟨a, xs, e, _⟩ := Rp.tup.mp r; exact ⟨a, e⟩
  | _ => cases h
theorem od_eqS (hu : X.A.units + 64 < cLine) (h : eqb d = true) (hd : dpt d ≤ 60) (hs : isSq d = true) : OD X (compareOp .Eq) d d (Eq (.bl true)) := by
  refine ⟨fun v u H Q => ∃ B, Ex B H ∧ Rp X.K B d v ∧ Rp X.K B d u ∧ Q (.bl true) H, fun pins s σ H v u vv uu Q I rv ru ⟨B, e, r1, r2, q⟩ => ?_, fun v u B H Q e r1 r2 k => ⟨B, e, r1, r2, k _ _ B H (Step.refl e) rfl (Rp.bl.mpr rfl)⟩⟩
  have fin : EP X pins σ Q (.bool true) s := ⟨.bl true, H, I, rfl, q⟩
  cases d with
  | lst ds =>
    obtain ⟨a, xs, rfl, h1, h2⟩ := Rp.lst.mp r1
    obtain ⟨b, ys, rfl, h3, h4⟩ := Rp.lst.mp r2
    cases (show vv = Value.ref a from rv)
    cases (show uu = Value.ref b from ru)
    obtain ⟨us, q1, p1, _⟩ := I.list (SqL.of (e _ _ h1))
    obtain ⟨ws, q2, p2, _⟩ := I.list (SqL.of (e _ _ h3))
    simp only [dpt] at hd
    have sz : us.toArray.size = ws.toArray.size := by
      rw [List.size_toArray, List.size_toArray, ← q1.length, ← q2.length, ← h2.length, ← h4.length]
    refine rcP_lists (e := fun _ => true) p1.isList p2.isList sz (by omega) (fun j j1 j2 => ?_) _ _ (by rw [show ((List.range us.toArray.size).all fun _ => true) = true from by simp]; exact fin)
    have k := eqs_D I e ds X.A.in1 xs ys us ws (by simpa only [eqb] using h) (by show X.A.units + 1 + _ < _; omega) h2 h4 q1 q2 j (by simpa using j1) (by simpa using j2)
    simpa using k
  | tup ds =>
    obtain ⟨a, xs, rfl, h1, h2⟩ := Rp.tup.mp r1
    obtain ⟨b, ys, rfl, h3, h4⟩ := Rp.tup.mp r2
    cases (show vv = Value.ref a from rv)
    cases (show uu = Value.ref b from ru)
    obtain ⟨us, q1, p1, _⟩ := I.tuple (e.t h1)
    obtain ⟨ws, q2, p2, _⟩ := I.tuple (e.t h3)
    simp only [dpt] at hd
    have sz : us.toArray.size = ws.toArray.size := by
      rw [List.size_toArray, List.size_toArray, ← q1.length, ← q2.length, ← h2.length, ← h4.length]
    refine rc_eq_tuples p1 p2 sz (by omega) (fun j j1 j2 => ?_) _ _ fin
    have k := eqs_D I e ds X.A.in1 xs ys us ws (by simpa only [eqb] using h) (by show X.A.units + 1 + _ < _; omega) h2 h4 q1 q2 j (by simpa using j1) (by simpa using j2)
    simpa using k
  | _ => cases hs
theorem od_neS {ds : List D} (hu : X.A.units + 64 < cLine) (h : eqbs ds = true) (hd : dpts ds < 60) : OD X (compareOp .NotEq) (.lst ds) (.lst ds) (Eq (.bl false)) := by
  refine ⟨fun v u H Q => ∃ B, Ex B H ∧ Rp X.K B (.lst ds) v ∧ Rp X.K B (.lst ds) u ∧ Q (.bl false) H, fun pins s σ H v u vv uu Q I rv ru ⟨B, e, r1, r2, q⟩ => ?_, fun v u B H Q e r1 r2 k => ⟨B, e, r1, r2, k _ _ B H (Step.refl e) rfl (Rp.bl.mpr rfl)⟩⟩
  have fin : EP X pins σ Q (.bool false) s := ⟨.bl false, H, I, rfl, q⟩
  obtain ⟨a, xs, rfl, h1, h2⟩ := Rp.lst.mp r1
  obtain ⟨b, ys, rfl, h3, h4⟩ := Rp.lst.mp r2
  cases (show vv = Value.ref a from rv)
  cases (show uu = Value.ref b from ru)
  obtain ⟨us, q1, p1, _⟩ := I.list (SqL.of (e _ _ h1))
  obtain ⟨ws, q2, p2, _⟩ := I.list (SqL.of (e _ _ h3))
  have sz : us.toArray.size = ws.toArray.size := by
    rw [List.size_toArray, List.size_toArray, ← q1.length, ← q2.length, ← h2.length, ← h4.length]
  refine rc_ne_lists p1.isList p2.isList sz (by omega) (fun j j1 j2 => ?_) _ _ fin
  have k := eqs_D I e ds X.A.in1 xs ys us ws h (by show X.A.units + 1 + _ < _; omega) h2 h4 q1 q2 j (by simpa using j1) (by simpa using j2)
  simpa using k
end
section
variable {P : Program} {w : World} {K : PySem.W.Frag} {mg : Str → Option Value} {base : Heap} {Y : Co} {T : Tb} {k : Nat} {M : Mem} {Q : PD} {E : PX} {x y d : D} {ds : List D}
theorem oc_eqS (C : CoOk Y P w K mg base k) (hx : vw M x = d) (hy : vw M y = d) (h : eqb d = true) (hd : dpt d ≤ 60) (hs : isSq d = true) (q : Q (.bl true) M) : OC Y T (compareOp .Eq) x y M Q E :=
  oc_v hx hy rfl (fun X hY _ => od_eqS (by have := C.u64 hY; omega) h hd hs) q
theorem oc_neS (C : CoOk Y P w K mg base k) (hx : vw M x = .lst ds) (hy : vw M y = .lst ds) (h : eqbs ds = true) (hd : dpts ds < 60) (q : Q (.bl false) M) : OC Y T (compareOp .NotEq) x y M Q E :=
  oc_v hx hy rfl (fun X hY _ => od_neS (by have := C.u64 hY; omega) h hd) q
end
end Wx
set_option Elab.async false
set_option linter.all false
set_option maxRecDepth 100000
set_option maxHeartbeats 4000000
/-! What the law's top has written, by names: the head's Hook. -/
namespace Hd
open PySem PySem.Spec PyProof.Rows L2 Fx
/-- where a def stands -/
inductive Pth where
  | glo (x : Str) | meth (C m : Str) | prop (C m : Str) | stat (C m : Str)
def hd1 : Option (List Value) → Addr
  | some (.ref a :: _) => a
  | _ => 0
def tl1 : Option (List Value) → List Value
  | some (_ :: r) => r
  | _ => []
def statP (K : PySem.W.Frag) (C : Addr) (m : Str) : Addr := match PySem.W.findCls K (.ref C) (.type "type") m with
  | some (.get _ (.ref p) _ _) => p
  | _ => 0
def isStat (K : PySem.W.Frag) (C : Addr) (m : Str) : Bool := match PySem.W.findCls K (.ref C) (.type "type") m with
  | some (.get (.builtin g) (.ref _) .none (.ref C')) => decide (g = "staticmethod.__get__") && decide (C' = C)
  | _ => false
theorem isStat_ok {K : PySem.W.Frag} {C : Addr} {m : Str} (h : isStat K C m = true) : PySem.W.findCls K (.ref C) (.type "type") m = some (.get (.builtin "staticmethod.__get__") (.ref (statP K C m)) .none (.ref C)) := by
  unfold isStat at h
  split at h
  · rename_i g p C' e
    rw [Bool.and_eq_true, decide_eq_true_eq, decide_eq_true_eq] at h
    obtain ⟨rfl, rfl⟩ := h
    have e2 : statP K C' m = p := by unfold statP; rw [e]
    rw [e2]; exact e
  · cases h
/-- the class's attribute x is the int i -/
def clsInt (K : PySem.W.Frag) (C : Addr) (x : Str) (i : Int) : Bool := match PySem.W.findCls K (.ref C) (.type "type") x with
  | some (.val (.int j _)) => decide (j = i)
  | _ => false
theorem clsInt_ok {K : PySem.W.Frag} {C : Addr} {x : Str} {i : Int} (h : clsInt K C x i = true) : ∃ t, PySem.W.findCls K (.ref C) (.type "type") x = some (.val (.int i t)) := by
  unfold clsInt at h
  split at h
  · rename_i j t e
    rw [decide_eq_true_eq] at h
    subst h
    exact ⟨t, e⟩
  · cases h
def Pth.ad (K : PySem.W.Frag) : Pth → Addr
  | .glo x => He.ga K x
  | .meth C m => He.ma K (He.ga K C) m
  | .prop C m => hd1 (PySem.W.recIn K (He.ma K (He.ga K C) m) "property")
  | .stat C m => hd1 (PySem.W.recIn K (statP K (He.ga K C) m) "staticmethod")
/-- a def: where it stands, its name, its qualified name, its statement, whether it has defaults -/
structure Df where
  p : Pth
  x : Str
  qual : Str
  st : Stmt
  dfl : Bool
def Df.val (d : Df) : He.FnW := some (d.x, d.qual, defArgs d.st, .stmts (defBody d.st), defScope d.st, mainGlobals, [], builtinsNs)
def fnAt (K : PySem.W.Frag) (a : Addr) : He.FnW := match K.lookup a with
  | some ⟨_, _, .func fd, _⟩ => some (fd.name, fd.qualname, fd.params, fd.body, fd.scope, fd.globals, fd.closure, fd.builtins)
  | _ => none
def isNone : Value → Bool
  | .none => true
  | _ => false
theorem isNone_ok {v : Value} (h : isNone v = true) : v = .none := by
  cases v <;> first | rfl | cases h
def Df.ok (K : PySem.W.Frag) (d : Df) : Bool := PySem.W.keepIn K (.ref (d.p.ad K)) && (match K.lookup (d.p.ad K) with
  | some ⟨_, _, .func fd, _⟩ => PySem.W.codeIn K fd.code d.qual && (d.dfl || isNone fd.defaults)
  | _ => false)
/-- the tuple of defaults of the def at a -/
def dflT (K : PySem.W.Frag) (a : Addr) : Addr := match K.lookup a with
  | some ⟨_, _, .func fd, _⟩ => (match fd.defaults with
    | .ref t => t
    | _ => 0)
  | _ => 0
def codeA (K : PySem.W.Frag) (a : Addr) : Addr := match K.lookup a with
  | some ⟨_, _, .func fd, _⟩ => (match fd.code with
    | .ref c => c
    | _ => 0)
  | _ => 0
theorem Df.get {K : PySem.W.Frag} {d : Df} (e : fnAt K (d.p.ad K) = d.val) (c : d.ok K = true) :
    ∃ (oc : Value) (od an : Option Addr) (osl : Array (Option Value)) (dV kV doc pm cdv ct : Value), K.lookup (d.p.ad K) = some ⟨oc, od, .func (PySem.W.fnOf d.x d.qual (defArgs d.st) (defBody d.st) (defScope d.st) dV kV doc pm an cdv ct), osl⟩ ∧ PySem.W.codeIn K cdv d.qual = true ∧ PySem.W.keepIn K (.ref (d.p.ad K)) = true ∧ (d.dfl = false → dV = .none) ∧ cdv = .ref (codeA K (d.p.ad K)) := by
  obtain ⟨kp, c2⟩ := Bool.and_eq_true_iff.mp c
  unfold fnAt at e
  cases q : K.lookup (d.p.ad K) with
  | none => rw [q] at c2; cases c2
  | some o =>
    obtain ⟨oc, od, dt, osl⟩ := o
    rw [q] at c2 e
    cases dt with
    | func fd =>
      obtain ⟨n1, n2, n3, n4, n5, n6, n7, n8, n9, n10, n11, n12, n13, n14, n15⟩ := fd
      have e2 : (some (n1, n2, n3, n4, n5, n6, n7, n15) : He.FnW) = some (d.x, d.qual, defArgs d.st, .stmts (defBody d.st), defScope d.st, mainGlobals, [], builtinsNs) := e
      simp only [Option.some.injEq, Prod.mk.injEq] at e2
      obtain ⟨h1, h2, h3, h4, h5, h6, h7, h8⟩ := e2
      subst h1 h2 h3 h4 h5 h6 h7 h8
      have c3 : (PySem.W.codeIn K n13 d.qual && (d.dfl || isNone n8)) = true := c2
      obtain ⟨k1, k2⟩ := Bool.and_eq_true_iff.mp c3
      obtain ⟨cc, ec⟩ := He.codeIn_ref k1
      refine ⟨oc, od, n12, osl, n8, n9, n10, n11, n13, n14, rfl, k1, kp, fun z => ?_, ?_⟩
      · rw [z, Bool.false_or] at k2
        exact isNone_ok k2
      · unfold codeA
        rw [q, ec]
    | _ => cases c2
/-! ### the Hook -/
/-- the addresses that are read -/
def asH (g : Addr → Option Obj) (n : Nat) : List Addr := PySem.cStatics :: PySem.sysModules :: He.asD g n
structure Says (ds : List Df) (ex : List (PySem.W.Frag → Bool)) (tf : List Pth) (h : Heap) (K : PySem.W.Frag) : Prop where
  val : ds.map (fun d => fnAt K (d.p.ad K)) = ds.map Df.val
  ok : ∀ d ∈ ds, d.ok K = true
  more : ∀ f ∈ ex, f K = true
  hd : ∀ p ∈ tf, PySem.W.codeHdIn K (codeA K (p.ad K)) (He.tabOf K (codeA K (p.ad K))) = true
  out : ∀ p ∈ tf, K.lookup (He.tabOf K (codeA K (p.ad K))) = none
  mt : ∀ p ∈ tf, h.get? (He.tabOf K (codeA K (p.ad K))) = some { cls := .none, data := .fields #[] }
def tabsB (g : Addr → Option Obj) (tf : List Pth) (K : PySem.W.Frag) : Bool := tf.all fun p => PySem.W.codeHdIn K (codeA K (p.ad K)) (He.tabOf K (codeA K (p.ad K))) && (match g (He.tabOf K (codeA K (p.ad K))) with
  | some o => He.emptyTab o
  | none => false)
abbrev Al : Type := List He.FnW × Bool
def obsG (n : Nat) (ds : List Df) (ex : List (PySem.W.Frag → Bool)) (tf : List Pth) (g : Addr → Option Obj) : Al :=
  (ds.map fun d => fnAt (He.frT g (asH g n)) (d.p.ad (He.frT g (asH g n))), (ds.all fun d => d.ok (He.frT g (asH g n))) && ((ex.all fun f => f (He.frT g (asH g n))) && tabsB g tf (He.frT g (asH g n))))
theorem says_of {n : Nat} {ds : List Df} {ex : List (PySem.W.Frag → Bool)} {tf : List Pth} {h : Heap} (e : obsG n ds ex tf h.get? = (ds.map Df.val, true)) : Says ds ex tf h (He.frT h.get? (asH h.get? n)) := by
  have e1 := congrArg (fun z : Al => z.1) e
  have e2 : ((ds.all fun d => d.ok (He.frT h.get? (asH h.get? n))) && ((ex.all fun f => f (He.frT h.get? (asH h.get? n))) && tabsB h.get? tf (He.frT h.get? (asH h.get? n)))) = true := congrArg (fun z : Al => z.2) e
  simp only [Bool.and_eq_true, List.all_eq_true] at e2
  obtain ⟨a1, a2, a3⟩ := e2
  have key : ∀ p ∈ tf, PySem.W.codeHdIn (He.frT h.get? (asH h.get? n)) (codeA (He.frT h.get? (asH h.get? n)) (p.ad (He.frT h.get? (asH h.get? n)))) (He.tabOf (He.frT h.get? (asH h.get? n)) (codeA (He.frT h.get? (asH h.get? n)) (p.ad (He.frT h.get? (asH h.get? n))))) = true ∧
      ∃ o, h.get? (He.tabOf (He.frT h.get? (asH h.get? n)) (codeA (He.frT h.get? (asH h.get? n)) (p.ad (He.frT h.get? (asH h.get? n))))) = some o ∧ He.emptyTab o = true := fun p hp => by
    unfold tabsB at a3
    rw [List.all_eq_true] at a3
    obtain ⟨b1, b2⟩ := Bool.and_eq_true_iff.mp (a3 p hp)
    refine ⟨b1, ?_⟩
    split at b2
    · rename_i o q
      exact ⟨o, q, b2⟩
    · cases b2
  exact ⟨e1, a1, a2, fun p hp => (key p hp).1, fun p hp => let ⟨_, o, q, z⟩ := key p hp; He.frT_none q z, fun p hp => by
    obtain ⟨_, o, q, z⟩ := key p hp
    rw [q, He.emptyTab_eq z]⟩
def hook (n : Nat) (ds : List Df) (ex : List (PySem.W.Frag → Bool)) (tf : List Pth) : PySem.W.Hook where
  α := Al
  obs := fun s => obsG n ds ex tf s.heap.get?
  val := fun _ => (ds.map Df.val, true)
  says := fun _ h => ∃ K : PySem.W.Frag, K.In h ∧ Says ds ex tf h K
  of := fun _ _ e => ⟨_, He.frT_in, says_of e⟩
  keeps := fun _ _ _ ⟨K, hK, c⟩ k => ⟨K, PySem.W.Frag.In.keeps hK k, ⟨c.val, c.ok, c.more, c.hd, c.out, fun p hp => k _ _ (c.mt p hp)⟩⟩
theorem obsG_eq {n : Nat} {ds : List Df} {ex : List (PySem.W.Frag → Bool)} {tf : List Pth} {g : Addr → Option Obj} {s : Shared} (h : ∀ a, g a = s.heap.get? a) : obsG n ds ex tf g = (hook n ds ex tf).obs s := by
  have e : g = s.heap.get? := funext h
  rw [e] <;> rfl
section
variable {ds : List Df} {ex : List (PySem.W.Frag → Bool)} {tf : List Pth} {h : Heap} {K : PySem.W.Frag}
theorem Says.fn (c : Says ds ex tf h K) (i : Nat) {d : Df} (hi : ds[i]? = some d) :
    ∃ (oc : Value) (od an : Option Addr) (osl : Array (Option Value)) (dV kV doc pm cdv ct : Value), K.lookup (d.p.ad K) = some ⟨oc, od, .func (PySem.W.fnOf d.x d.qual (defArgs d.st) (defBody d.st) (defScope d.st) dV kV doc pm an cdv ct), osl⟩ ∧ PySem.W.codeIn K cdv d.qual = true ∧ PySem.W.keepIn K (.ref (d.p.ad K)) = true ∧ (d.dfl = false → dV = .none) ∧ cdv = .ref (codeA K (d.p.ad K)) := by
  have e2 : (ds.map fun d => fnAt K (d.p.ad K))[i]? = (ds.map Df.val)[i]? := by rw [c.val]
  rw [List.getElem?_map, List.getElem?_map, hi] at e2
  exact Df.get (Option.some.inj e2) (c.ok d (List.mem_of_getElem? hi))
theorem Says.fact (c : Says ds ex tf h K) (i : Nat) {f : PySem.W.Frag → Bool} (hi : ex[i]? = some f) : f K = true := c.more f (List.mem_of_getElem? hi)
end
theorem law_at {mg : Str → Option Value} {x : Str} {a b : Addr} (h : mg x = some (.ref a)) (h2 : mg x = some (.ref b)) : a = b := by
  rw [h] at h2
  injection h2 with h2
  injection h2
end Hd
set_option Elab.async false
set_option linter.all false
set_option maxRecDepth 100000
set_option maxHeartbeats 4000000
/-! Wx: errors of one's own with one attribute, made. -/
namespace Wx
open PySem L2 Fx PySem.Spec PyProof.Rows
/-- __init__(self, y): self.f = y -/
def spInit (f : Str) : Sp := fun vs H Q _ => ∃ (a C : Addr) (v : V), vs = [.ref a, v] ∧ H a = some (exo a C none) ∧ ∀ dx, H dx = none → dx ≠ a → Q .non (upd (upd H dx (exd dx [(f, v)])) a (exo a C (some dx)))
section
variable {P : Program} {w : World} {K : PySem.W.Frag} {mg : Str → Option Value} {base : Heap} {fI C : Addr} {fd : FuncData} {x qual y : Str} {st : Stmt} {f : Str}
/-- a class whose instances have the attribute f, put by its __init__ -/
structure ErrC (K : PySem.W.Frag) (mg : Str → Option Value) (x : Str) (C fI : Addr) (f : Str) : Prop where
  T : OexC K C
  m : mg x = some (.ref C)
  i : PySem.W.findIn K (.ref C) "__init__" = some (some (.ref fI))
  t : PySem.W.typeIn K (.ref fI) = some (.type "function")
  n : PySem.W.findIn K (.ref C) f = some none
/-- the statement of such an __init__ -/
def initB (sc : Scope) (y f : Str) (body : List Stmt) : Bool := match body with
  | [.Assign [.Attribute (.Name s _) f' _] (.Name y' _) _] => decide (s = ("self" : Str)) && decide (f' = f) && decide (y' = y) && decide (sc.names.lookup ("self" : Str) = some NameKind.local) && decide (sc.names.lookup y = some NameKind.local) && !(y == ("__debug__" : Str)) && !(y == ("__classdict__" : Str))
  | _ => false
theorem init_ok (F : FunA K x qual st fI fd) (S : FnScope ["self", y] ["self", y] (defScope st)) (hb : initB (defScope st) y f (defBody st) = true) (T : OexC K C) (hn : PySem.W.findIn K (.ref C) f = some none) :
    FnOk P w K mg base CX0 1 fI fd ["self", y] (fun vs H Q E => ∃ (a : Addr) (v : V), vs = [.ref a, v] ∧ H a = some (exo a C none) ∧ ∀ dx, H dx = none → dx ≠ a → Q .non (upd (upd H dx (exd dx [(f, v)])) a (exo a C (some dx)))) := by
  refine F.okB S (fun vs H Q E ⟨a, v, e, _⟩ => by rw [e]; rfl) fun cdv A outer s H vs Q E hr ⟨a, v, e, he, q⟩ => ?_
  subst e
  unfold initB at hb
  split at hb
  · rename_i s p1 f' p2 y' p3 p4 hbody
    simp only [Bool.and_eq_true, decide_eq_true_eq, Bool.not_eq_true'] at hb
    obtain ⟨⟨⟨⟨⟨⟨rfl, rfl⟩, rfl⟩, h1⟩, h2⟩, h3⟩, h4⟩ := hb
    rw [hbody]
    refine RB.of (pss_one (ps_ost (pe_var (i := 0) rfl (.inl h1) (by decide) (by decide)) (pe_var (i := 1) rfl (.inl h2) h3 h4))) ?_
    exact ⟨v, rfl, .ref a, rfl, a, C, rfl, T, hn, .inl ⟨he, fun dx h1 h2 => q dx h1 h2⟩⟩
  · cases hb
theorem exOk_of {T' : Tb} {Y : Co} {k : Nat} (D : ErrC K mg x C fI f) (F : FunA K "__init__" qual st fI fd) (S : FnScope ["self", y] ["self", y] (defScope st)) (hb : initB (defScope st) y f (defBody st) = true) (bI : Binds K fd ["self", y] []) (CO : CoOk Y P w K mg base k) (hk : 2 ≤ k) :
    ExOk Y T' x C 1 (fun ds => match ds with | [d] => [(f, d)] | _ => []) := by
  intro X hY hc e es p pos l M E hg hd he hpl h σ B H S1 W tk kx pins s I
  obtain ⟨rfl, rfl, rfl, rfl, rfl, hr, hG⟩ := CO.ex hY
  have F1 := init_ok (P := X.prog) (w := X.w) (mg := X.mg) (base := X.base) F S hb D.T D.n
  refine pmk_oex (CX := CX0) D.T D.i D.t F1 (hr.mono hk) bI .nil pass0 hg D.m cA hd he hpl pins s σ H _ I ?_
  refine h σ B H S1 _ W tk (fun vs ds M1 B1 H1 g S2 r ⟨hl, q⟩ => ?_) kx
  match ds, hl with
  | [d], _ =>
    obtain ⟨v, t, rfl, rv, rt⟩ := (show ∃ v t, vs = v :: t ∧ Rp X.K B1 d v ∧ RpL X.K B1 [] t by simpa only [RpL] using r)
    have et : t = [] := by simpa only [RpL] using rt
    subst et
    refine ⟨(show 1 ≤ 1000 by decide), fun a ha => ⟨a, v, rfl, upd_same, fun dx hdx ne => ⟨rfl, dx, [(f, v)], upd_same, by rw [upd_ne (Ne.symm ne.symm.symm.symm), upd_same], ?_, ?_⟩⟩⟩
    · rw [upd_ne ne] at hdx; exact hdx
    · have hd1 : H1 dx = none := by rw [upd_ne ne] at hdx; exact hdx
      obtain ⟨g3, S3⟩ := S2.stepH (Ex.new (o := .xd [(f, v)]) hd1)
      have e : upd (L2.del (upd (upd (upd H1 a (exo a C none)) dx (exd dx [(f, v)])) a (exo a C (some dx))) a) dx (.xd [(f, v)]) = upd H1 dx (.xd [(f, v)]) := by
        funext b
        by_cases h1 : b = dx
        · subst h1; rw [upd_same, upd_same]
        · rw [upd_ne h1, upd_ne h1]
          by_cases h2 : b = a
          · subst h2; rw [del_same, ha]
          · rw [del_ne h2, upd_ne h2, upd_ne h1, upd_ne h2]
      rw [e]
      exact kx C [(f, d)] M1 B1 _ dx [(f, v)] (g.trans g3) S3 upd_same (by simp only [RpF]; exact ⟨v, [], rfl, rv, rfl⟩) q
end
end Wx
set_option Elab.async false
set_option linter.all false
set_option maxRecDepth 100000
set_option maxHeartbeats 4000000
/-! The head by names: checks of classes, methods, defaults, errors. -/
namespace Hd
open PySem PySem.Spec PyProof.Rows L2 Fx
section
variable {K : PySem.W.Frag} {C a p : Addr} {m : Str}
def isF (K : PySem.W.Frag) (v : Value) (m : Str) (r : Value) : Bool := decide (PySem.W.findIn K v m = some (some r))
theorem isF_ok {v r : Value} (h : isF K v m r = true) : PySem.W.findIn K v m = some (some r) := of_decide_eq_true h
def noF (K : PySem.W.Frag) (C : Addr) (m : Str) : Bool := decide (PySem.W.findIn K (.ref C) m = some none)
theorem noF_ok (h : noF K C m = true) : PySem.W.findIn K (.ref C) m = some none := of_decide_eq_true h
def clsHi (K : PySem.W.Frag) (C : Addr) : Bool := isF K (.ref C) "__class__" (.builtin "object.__class__") && (decide (PySem.W.specialIn K (.builtin "object.__class__") "__get__" = some (some (.builtin "getset_descriptor.__get__"))) && (decide (PySem.W.takesIn K (.builtin "object.__class__") = some true) && decide (PySem.W.mroIn K C (.type "object") = some true)))
def ownB (K : PySem.W.Frag) (C : Addr) : Bool := (PySem.W.plainGet K C Str.empty && (PySem.W.hasDictIn K C && (PySem.W.plainOver K C && isF K (.ref C) "__setattr__" (.builtin "object.__setattr__")))) && clsHi K C
theorem own_ok (h : ownB K C = true) : OwnTy K C := by
  unfold ownB clsHi isF at h
  simp only [Bool.and_eq_true, decide_eq_true_eq] at h
  obtain ⟨⟨h1, h2, h3, h4⟩, h5, h6, h7, h8⟩ := h
  exact ⟨⟨h1, h2, h3, h4⟩, h5, h6, h7, h8⟩
def mkB (K : PySem.W.Frag) (C a : Addr) : Bool := PySem.W.makesIn K C && (isF K (.ref C) "__init__" (.ref a) && (PySem.W.isFn K (.ref a) && PySem.W.keepIn K (.ref C)))
theorem mk_ok (h : mkB K C a = true) : Mk K C a := by
  unfold mkB isF at h
  simp only [Bool.and_eq_true, decide_eq_true_eq] at h
  obtain ⟨h1, h2, h3, h4⟩ := h
  exact ⟨h1, h2, h3, h4⟩
def meB (K : PySem.W.Frag) (C : Addr) (m : Str) (a : Addr) : Bool := isF K (.ref C) m (.ref a) && (PySem.W.isFn K (.ref a) && PySem.W.keepIn K (.ref a))
theorem me_ok (h : meB K C m a = true) : Meth K C m a := by
  unfold meB isF at h
  simp only [Bool.and_eq_true, decide_eq_true_eq] at h
  obtain ⟨h1, h2, h3⟩ := h
  exact ⟨h1, h2, h3⟩
theorem sp_ok (h : meB K C m a = true) : Spc K C m a := by
  unfold meB isF at h
  simp only [Bool.and_eq_true, decide_eq_true_eq] at h
  exact ⟨h.1, h.2.1⟩
def prB (K : PySem.W.Frag) (C : Addr) (m : Str) : Bool := isF K (.ref C) m (.ref (He.ma K C m)) && (decide (PySem.W.specialIn K (.ref (He.ma K C m)) "__get__" = some (some (.builtin "property.__get__"))) && (decide (PySem.W.takesIn K (.ref (He.ma K C m)) = some true) && decide (PySem.W.recIn K (He.ma K C m) "property" = some (.ref (hd1 (PySem.W.recIn K (He.ma K C m) "property")) :: tl1 (PySem.W.recIn K (He.ma K C m) "property")))))
theorem pr_ok (h : prB K C m = true) : ∃ p0, PropOf K C m p0 (hd1 (PySem.W.recIn K (He.ma K C m) "property")) := by
  unfold prB isF at h
  simp only [Bool.and_eq_true, decide_eq_true_eq] at h
  obtain ⟨h1, h2, h3, h4⟩ := h
  exact ⟨_, h1, h2, h3, _, h4⟩
def stB (K : PySem.W.Frag) (C : Addr) (m : Str) : Bool := isStat K C m && (decide (PySem.W.recIn K (statP K C m) "staticmethod" = some (.ref (hd1 (PySem.W.recIn K (statP K C m) "staticmethod")) :: tl1 (PySem.W.recIn K (statP K C m) "staticmethod"))) && (decide (PySem.W.typeIn K (.ref C) = some (.type "type")) && PySem.W.keepIn K (.ref (hd1 (PySem.W.recIn K (statP K C m) "staticmethod")))))
theorem st_ok (h : stB K C m = true) : ∃ q0, SMet K C (.type "type") m q0 (hd1 (PySem.W.recIn K (statP K C m) "staticmethod")) := by
  unfold stB at h
  simp only [Bool.and_eq_true, decide_eq_true_eq] at h
  obtain ⟨h1, h2, h3, h4⟩ := h
  exact ⟨_, isStat_ok h1, ⟨_, h2⟩, h3, h4⟩
def rdB (K : PySem.W.Frag) (C : Addr) : Bool := PySem.W.readsIn K C (.type "type") && decide (PySem.W.specialIn K (.ref C) "__getattribute__" = some (some (.builtin "type.__getattribute__")))
theorem rd_ok (h : rdB K C = true) : ClX.CRead K C (.type "type") := by
  unfold rdB at h
  simp only [Bool.and_eq_true, decide_eq_true_eq] at h
  exact ⟨h.1, h.2⟩
/-- the types that are no C -/
def TyN : List String := ["NoneType", "bool", "int", "str", "list", "tuple", "dict"]
def noSubB (K : PySem.W.Frag) (C : Addr) : Bool := TyN.all fun t => decide (PySem.W.subIn K (.type t) (.ref C) = some false)
theorem noSub_ok (h : noSubB K C = true) {t : String} (ht : t ∈ TyN) : PySem.W.subIn K (.type t) (.ref C) = some false := by
  unfold noSubB at h
  rw [List.all_eq_true] at h
  exact of_decide_eq_true (h t ht)
/-! ### defaults -/
def dflB (K : PySem.W.Frag) (a : Addr) (vs : List Value) : Bool := match K.lookup a with
  | some ⟨_, _, .func fd, _⟩ => (match fd.defaults with
    | .ref t => (match K.lookup t with
      | some ⟨_, _, .seq us _, _⟩ => decide (us = vs.toArray)
      | _ => false)
    | _ => false)
  | _ => false
theorem dfl_ok {oc : Value} {od : Option Addr} {fd : FuncData} {sl : Array (Option Value)} {vs : List Value} (lk : K.lookup a = some ⟨oc, od, .func fd, sl⟩) (h : dflB K a vs = true) : ∃ (T : Addr) (o : Obj) (n : Nat), fd.defaults = .ref T ∧ K.lookup T = some o ∧ o.data = .seq vs.toArray n := by
  unfold dflB at h
  rw [lk] at h
  dsimp only at h
  split at h
  · rename_i t e
    split at h
    · rename_i c d us n s e2
      rw [decide_eq_true_eq] at h
      subst h
      exact ⟨t, _, n, e, e2, rfl⟩
    · cases h
  · cases h
/-- the first default -/
def dfl1 (K : PySem.W.Frag) (a : Addr) : Addr := match K.lookup a with
  | some ⟨_, _, .func fd, _⟩ => (match fd.defaults with
    | .ref t => (match K.lookup t with
      | some ⟨_, _, .seq us _, _⟩ => (match us.toList with
        | .ref e :: _ => e
        | _ => 0)
      | _ => 0)
    | _ => 0)
  | _ => 0
def tup0B (K : PySem.W.Frag) (e : Addr) : Bool := match K.lookup e with
  | some ⟨.type t, _, .seq us _, _⟩ => decide (t = "tuple") && decide (us = #[])
  | _ => false
theorem tup0_ok {e : Addr} (h : tup0B K e = true) : ∀ H : Hp, SqT K H e [] := fun H => by
  unfold tup0B at h
  split at h
  · rename_i t d us n s e2
    simp only [Bool.and_eq_true, decide_eq_true_eq] at h
    obtain ⟨rfl, rfl⟩ := h
    exact .inr ⟨_, #[], _, e2, rfl, rfl, by decide, .nil⟩
  · cases h
/-! ### errors -/
def oexB (K : PySem.W.Frag) (C : Addr) : Bool := (match K.lookup C with
  | some ⟨.type t, _, .cls cd, sl⟩ => (match cd.mro, sl.toList with
    | .ref C' :: bm, [_, _, _, _, some (.builtin n), _] => decide (t = "type") && (decide (C' = C) && (decide (n = "ValueError.__new__") && (!cd.hasDel && (cd.hasDict && PySem.HandSPX.refsVE bm))))
    | _, _ => false)
  | _ => false) && (isF K (.ref C) "__setattr__" (.builtin "object.__setattr__") && (decide (PySem.W.subIn K (.ref C) (.type "BaseException") = some true) && (decide (PySem.W.typeIn K (.ref C) = some (.type "type")) && PySem.W.keepIn K (.ref C))))
theorem oex_ok (h : oexB K C = true) : OexC K C := by
  unfold oexB at h
  simp only [Bool.and_eq_true] at h
  obtain ⟨h0, h1, h2, h3, h4⟩ := h
  refine ⟨?_, isF_ok h1, of_decide_eq_true h2, of_decide_eq_true h3, h4⟩
  split at h0
  · rename_i t dd cd sl ho
    split at h0
    · rename_i C' bm k0 k1 k2 k3 n k5 hm hs
      simp only [Bool.and_eq_true, decide_eq_true_eq, Bool.not_eq_true'] at h0
      obtain ⟨rfl, rfl, rfl, hdel, hdc, ht⟩ := h0
      obtain ⟨nm, bs, mro, ns, qn, hd, sn, sub, ab, col, del⟩ := cd
      dsimp only at hm hdel hdc
      subst hm hdel hdc
      have hsl : sl = #[k0, k1, k2, k3, some (.builtin "ValueError.__new__"), k5] := by
        obtain ⟨l⟩ := sl
        simp only at hs
        rw [hs]
      subst hsl
      exact ⟨_, _, _, _, _, _, _, _, _, _, _, _, _, _, _, ho, ht⟩
    · cases h0
  · cases h0
def errB (K : PySem.W.Frag) (x : Str) (f : Str) : Bool := oexB K (He.ga K x) && (decide (PySem.W.nsIn K mainGlobals x = some (some (.ref (He.ga K x)))) && (isF K (.ref (He.ga K x)) "__init__" (.ref (He.ma K (He.ga K x) "__init__")) && (decide (PySem.W.typeIn K (.ref (He.ma K (He.ga K x) "__init__")) = some (.type "function")) && noF K (He.ga K x) f)))
theorem err_ok {h : Heap} {mg : Str → Option Value} (X : K.In h) (G : h.Ns mainGlobals mg) {x f : Str} (e : errB K x f = true) : Wx.ErrC K mg x (He.ga K x) (He.ma K (He.ga K x) "__init__") f := by
  unfold errB at e
  simp only [Bool.and_eq_true] at e
  obtain ⟨h1, h2, h3, h4, h5⟩ := e
  exact ⟨oex_ok h1, PySem.W.mg_of X G (of_decide_eq_true h2), isF_ok h3, of_decide_eq_true h4, noF_ok h5⟩
def xcB (K : PySem.W.Frag) (C : Addr) : Bool := xfB K C && clsHi K C
theorem xc_ok (h : xcB K C = true) : ExcC K C := by
  unfold xcB clsHi isF at h
  simp only [Bool.and_eq_true, decide_eq_true_eq] at h
  obtain ⟨h0, h5, h6, h7, h8⟩ := h
  obtain ⟨a, b, c, d⟩ := xfB_ok h0
  exact ⟨a, b, c, d, h5, h6, h7, h8⟩
theorem xf_ok (h : xcB K C = true) : XfC K C := xfB_ok (by unfold xcB at h; exact (Bool.and_eq_true_iff.mp h).1)
end
/-! ### names -/
def gloB (K : PySem.W.Frag) (x : Str) : Bool := decide (PySem.W.nsIn K mainGlobals x = some (some (.ref (He.ga K x))))
def freeB (K : PySem.W.Frag) (x : Str) : Bool := decide (PySem.W.nsIn K mainGlobals x = some none)
section
variable {K : PySem.W.Frag} {h : Heap} {mg : Str → Option Value} {x : Str}
theorem glo_ok (X : K.In h) (G : h.Ns mainGlobals mg) (e : gloB K x = true) : mg x = some (.ref (He.ga K x)) := PySem.W.mg_of X G (of_decide_eq_true e)
theorem free_ok (X : K.In h) (G : h.Ns mainGlobals mg) (e : freeB K x = true) : mg x = none := PySem.W.mg_none_of X G (of_decide_eq_true e)
def intB (K : PySem.W.Frag) (x : Str) (i : Int) : Bool := match PySem.W.nsIn K mainGlobals x with
  | some (some (.int j _)) => decide (j = i)
  | _ => false
theorem int_ok {i : Int} (X : K.In h) (G : h.Ns mainGlobals mg) (e : intB K x i = true) : ∃ t, mg x = some (.int i t) := by
  unfold intB at e
  split at e
  · rename_i j t e2
    rw [decide_eq_true_eq] at e
    subst e
    exact ⟨t, PySem.W.mg_of X G e2⟩
  · cases e
def strB (K : PySem.W.Frag) (x : Str) (z : Str) : Bool := match PySem.W.nsIn K mainGlobals x with
  | some (some (.str y _)) => decide (y = z)
  | _ => false
theorem str_ok {z : Str} (X : K.In h) (G : h.Ns mainGlobals mg) (e : strB K x z = true) : ∃ t, mg x = some (.str z t) := by
  unfold strB at e
  split at e
  · rename_i j t e2
    rw [decide_eq_true_eq] at e
    subst e
    exact ⟨t, PySem.W.mg_of X G e2⟩
  · cases e
end
end Hd
set_option Elab.async false
set_option linter.all false
set_option maxRecDepth 100000
set_option maxHeartbeats 4000000
/-! Wx: operators and keyword calls by promises, draws of any size. -/
namespace Wx
open PySem L2 Fx PySem.Spec PyProof.Rows
theorem cd_divmodW {X : Cx} {i j : Int} (h : CDivP i j) : CD X (.builtin "divmod") [.int i, .int j] (Eq (.tup [.int (i / j), .int (i % j)])) := cd_of call_divmodW fun vs B H Q hx r k => by
  obtain ⟨v, u, rfl, rv, ru⟩ := rpl2 r
  exact ⟨i, j, by rw [Rp.int.mp rv, Rp.int.mp ru], h, fun q hq => k _ _ _ _ (Step.alloc hx hq) rfl (Rp.tup.mpr ⟨q, _, rfl, SqT.of upd_same, RpL.cons (Rp.int.mpr rfl) (RpL.cons (Rp.int.mpr rfl) RpL.nil)⟩)⟩
theorem divp_of {i j : Int} (h : 0 < j) (h2 : j < 1000000000000000000000000000000) : CDivP i j := by
  refine ⟨h, PyProof.noPylong_of_log2 ?_⟩
  have h0 : j.natAbs ≠ 0 := by omega
  have h1 : j.natAbs < 2 ^ 100 := by
    have e : (2 : Nat) ^ 100 = 1267650600228229401496703205376 := by decide
    rw [e]; omega
  have := (Nat.log2_lt h0).mpr h1
  omega
section
variable {P : Program} {w : World} {K : PySem.W.Frag} {mg : Str → Option Value} {base : Heap} {T : Tb} {k j : Nat} {f : Addr} {fd : FuncData} {ps : List Str} {sp : Spec} {Y : Co} {x y : D} {M : Mem} {Q : PD} {E : PX} {C : Addr} {X : Cx} {l : Sl} {σ : L2.St} {B H : Hp} {s : Shared} {pins : List (Addr × Obj)} {v : V}
/-- an instance of C: data, or one's own -/
def InsD (M : Mem) (d : D) (C : Addr) : Prop := (∃ fs, d = .obj C fs) ∨ ∃ p fs, d = .ref p ∧ M.at p = some (.ins C fs)
theorem insD {fs : List (Str × D)} : InsD M (.obj C fs) C := .inl ⟨fs, rfl⟩
theorem InsD.look {d : D} (h : InsD M d C) (I : Inv X pins σ H s) (S : StR X.K T l M σ B H) (r : Rp X.K B d v) : ∃ a ox od, v = .ref a ∧ PySem.W.InstAt s.heap a ox C (some od) := by
  rcases h with ⟨fs, rfl⟩ | ⟨p, fs, rfl, e⟩
  · obtain ⟨a, dx, gs, rfl, h1, h2⟩ := Rp.obj.mp r
    obtain ⟨ox, od, J⟩ := ins_at I (S.ex _ _ h1)
    exact ⟨a, ox, od, rfl, J⟩
  · obtain ⟨hb, dx, gs, hv, rv⟩ := S.mm.at_ p _ e
    obtain ⟨ox, od, J⟩ := ins_at I hv
    exact ⟨p, ox, od, by simpa only [Rp] using r, J⟩
theorem back_of {Qv : VK} {u : Value} {s' : Shared} (h : EP X pins σ Qv u s') : PySem.W.CmpBack (EP X pins σ Qv) u s' := by
  cases u <;> first | exact h | (obtain ⟨v, H', I', r, q⟩ := h; cases v <;> first | (cases r; done) | (obtain ⟨t, e⟩ := r; cases e))
/-- x op y of one class, by the promise of its own method -/
theorem oc_binX {op : Operator} {m : Str} (C' : CoOk Y P w K mg base k) (S : Spc K C m f) (hm : PySem.dunder op.info.2 = m) (sf : PySem.W.selfFirst K C = true) (F : FnX P w K mg base T j f fd ps sp) (hj : j ≤ k) (hb : Binds K fd ps []) (hx : InsD M x C) (hy : InsD M y C) (h : sp [x, y] M Q E) : OC Y T (binaryOp op) x y M Q E := fun X l hY hc pins s σ B H v u vv uu I S' rx ry rv ru Qv W tk kn kx => by
  obtain ⟨rfl, rfl, rfl, rfl, rfl, hr, hG⟩ := C'.ex hY
  subst hm
  obtain ⟨a, ox, od, rfl, J⟩ := hx.look I S' rx
  obtain ⟨b, oy, oe, rfl, Jb⟩ := hy.look I S' ry
  cases rv; cases ru
  obtain ⟨mm, hF⟩ := I.fr
  exact PySem.W.binop_K hF I.ok.mod.kin J Jb.type sf S.at_ S.fn (wpAny_mono (run_X F (hr.mono hj) hG rfl hb .nil (fun _ => RpL.nil) (by rw [List.append_nil]; exact h) pins s σ B H [.ref a, .ref b] [.ref a, .ref b] I S' (RpL.cons rx (RpL.cons ry RpL.nil)) (.cons rfl (.cons rfl .nil)) Qv W tk kn kx) (fun u s' z => back_of z) fun _ _ e => e)
/-- ~x -/
theorem uc_invX (C' : CoOk Y P w K mg base k) (S : Spc K C "__invert__" f) (F : FnX P w K mg base T j f fd ps sp) (hj : j ≤ k) (hb : Binds K fd ps []) (hx : InsD M x C) (h : sp [x] M Q E) : UC Y T (unaryOp .Invert) x M Q E := fun X l hY hc pins s σ B H v vv I S' rx rv Qv W tk kn kx => by
  obtain ⟨rfl, rfl, rfl, rfl, rfl, hr, hG⟩ := C'.ex hY
  obtain ⟨a, ox, od, rfl, J⟩ := hx.look I S' rx
  cases rv
  obtain ⟨mm, hF⟩ := I.fr
  exact PySem.W.ksp_inv hF I.ok.mod.kin J S.at_ S.fn (run_X F (hr.mono hj) hG rfl hb .nil (fun _ => RpL.nil) (by rw [List.append_nil]; exact h) pins s σ B H [.ref a] [.ref a] I S' (RpL.cons rx RpL.nil) (.cons rfl .nil) Qv W tk kn kx)
/-- a call by keywords -/
theorem ck_fn {ks : List Str} {n : Nat} {ds zs : List D} (C' : CoOk Y P w K mg base k) (F : FnX P w K mg base T j f fd ps sp) (hj : j ≤ k) (hb : KBn K fd ps n ks (fun us ws => us ++ ws) (fun vs zs => vs ++ zs)) (l1 : ds.length = n) (l2 : zs.length = ks.length) (h : sp (ds ++ zs) M Q E) : CK Y T (.ref f) ds ks zs M Q E := fun X l hY hc pins s σ B H vs us ws wvs I S r rv rz rw_ Qv W tk kn kx => by
  obtain ⟨rfl, rfl, rfl, rfl, rfl, hr, hG⟩ := C'.ex hY
  have want : spG X.K T sp (vs ++ ws) H Qv (fun cls d H' => W cls d σ H') := ⟨ds ++ zs, M, B, r.append rz, S.none, Q, E, h, fun v d M' B' H' g S' r' q => kn v d M' B' H' g (S'.slots (S.sl.mono g.b)) r' q,
    fun C fs M' B' H' dx gs g S' hx r' q => kx C fs M' B' H' dx gs g (S'.slots (S.sl.mono g.b)) hx r' q⟩
  have hus : us.length = n := by rw [← rv.length, ← r.length]; exact l1
  have hws : wvs.length = ks.length := by rw [← rw_.length, ← rz.length]; exact l2
  refine wpAny_call (codeAny_mono (F.run X.A X.stack s H ⟨us, ks.zip wvs⟩ (us ++ wvs) (vs ++ ws) Qv _ (hr.mono hj) hG I.env0 (hb.to s us wvs I.kIn hus hws) (rv.append rw_) want) fun res s' hq => ?_)
  match res, hq with
  | .error e, hq => exact tk e s' (XE.of_call I (fun _ _ _ h => h) hq)
  | .ok (.ret u), hq => exact I.after hq
  | .ok .next, hq => exact hq.elim
  | .ok .brk, hq => exact hq.elim
  | .ok .cont, hq => exact hq.elim
end
end Wx
set_option Elab.async false
set_option linter.all false
set_option maxRecDepth 100000
set_option maxHeartbeats 4000000
/-! Wx: repr of data with dicts. -/
namespace Wx
open PySem L2 Fx PySem.Spec PyProof.Rows
def keyP : Key → PyData
  | .inl i => .int i
  | .inr x => .str x
mutual
def py2 : D → PyData
  | .non => .none | .bl b => .bool b | .int i => .int i | .str x => .str x
  | .lst ds => .list (py2s ds) | .tup ds => .tuple (py2s ds)
  | .dic kvs => .dict (py2k kvs)
  | _ => .none
def py2s : List D → List PyData
  | [] => [] | d :: ds => py2 d :: py2s ds
def py2k : List (Key × D) → List (PyData × PyData)
  | [] => [] | (k, d) :: ds => (keyP k, py2 d) :: py2k ds
end
mutual
def shb : D → Bool
  | .non => true | .bl _ => true | .int _ => true | .str _ => true
  | .lst ds => shbs ds | .tup ds => shbs ds
  | .dic kvs => shbk kvs
  | _ => false
def shbs : List D → Bool
  | [] => true | d :: ds => shb d && shbs ds
def shbk : List (Key × D) → Bool
  | [] => true | (_, d) :: ds => shb d && shbk ds
end
theorem py2s_map : ∀ ds : List D, py2s ds = ds.map py2
  | [] => by simp only [py2s, List.map_nil]
  | d :: ds => by simp only [py2s, List.map_cons, py2s_map ds]
theorem shbs_all : ∀ {ds : List D}, (∀ d ∈ ds, shb d = true) → shbs ds = true
  | [], _ => by simp only [shbs]
  | d :: ds, h => by simp only [shbs, h d List.mem_cons_self, shbs_all fun e he => h e (List.mem_cons_of_mem _ he), Bool.and_self]
section
variable {X : Cx} {pins : List (Addr × Obj)} {σ : L2.St} {H : Hp} {s : Shared}
mutual
theorem reads2 (I : Inv X pins σ H s) (sm : ∀ o, s.heap.get? sysModules = some o → o.cls = .type "dict") : ∀ (d : D) (v : V) (u : Value), shb d = true → Rp X.K H d v → RelV v u → ∃ as, Reads s.heap u (py2 d) as ∧ sysModules ∉ as
  | .non, v, u, _, r, ru => by
    rw [Rp.non.mp r] at ru; cases ru
    simp only [py2]; exact ⟨_, Reads.none, List.not_mem_nil⟩
  | .bl b, v, u, _, r, ru => by
    rw [Rp.bl.mp r] at ru; cases ru
    simp only [py2]; exact ⟨_, Reads.bool b, List.not_mem_nil⟩
  | .int i, v, u, _, r, ru => by
    rw [Rp.int.mp r] at ru; obtain ⟨t, rfl⟩ := ru
    simp only [py2]; exact ⟨_, Reads.int i t, List.not_mem_nil⟩
  | .str x, v, u, _, r, ru => by
    rw [Rp.str.mp r] at ru; obtain ⟨t, rfl⟩ := ru
    simp only [py2]; exact ⟨_, Reads.str x t, List.not_mem_nil⟩
  | .lst ds, v, u, h, r, ru => by
    obtain ⟨a, xs, rfl, h1, h2⟩ := Rp.lst.mp r
    cases ru
    obtain ⟨its, rv, ⟨o, n, ho, hc, _, hd⟩, _⟩ := I.list (SqL.of h1)
    obtain ⟨as, hr, na⟩ := reads2s I sm ds _ its (by simpa only [shb] using h) h2 rv
    refine ⟨_, by simp only [py2]; exact Reads.list ho hc hd hr, fun z => ?_⟩
    rcases List.mem_cons.mp z with e | z
    · have := sm o (by rw [e]; exact ho)
      rw [hc] at this
      exact absurd this (by decide)
    · exact na z
  | .tup ds, v, u, h, r, ru => by
    obtain ⟨a, xs, rfl, h1, h2⟩ := Rp.tup.mp r
    cases ru
    obtain ⟨its, rv, ⟨o, ho, hc, n, hd⟩, _⟩ := I.tuple h1
    obtain ⟨as, hr, na⟩ := reads2s I sm ds _ its (by simpa only [shb] using h) h2 rv
    exact ⟨_, by simp only [py2]; exact Reads.tuple ho hc hd hr, na⟩
  | .dic kvs, v, u, h, r, ru => by
    simp only [Rp] at r
    obtain ⟨a, xs, rfl, h1, h2⟩ := r
    cases ru
    obtain ⟨_, hn, vs, kv, o, es, ep, ho, hx, hd, _, hp, _⟩ := dk_rd I.hok h1
    obtain ⟨as, bs, q1, q2, n1, n2⟩ := reads2k I sm kvs xs vs es.toList (by simpa only [shb] using h) h2 kv hp
    refine ⟨_, by simp only [py2]; exact Reads.dict ho hx.1 hd q1 q2, fun z => ?_⟩
    rcases List.mem_append.mp z with z | z
    · rcases List.mem_cons.mp z with e | z
      · rw [← e] at hn; simp at hn
      · exact n1 z
    · exact n2 z
  | .ref _, _, _, h, _, _ => by simp [shb] at h
  | .ty _, _, _, h, _, _ => by simp [shb] at h
  | .obj _ _, _, _, h, _, _ => by simp [shb] at h
  | .pot, _, _, h, _, _ => by simp [shb] at h
  | .scr _, _, _, h, _, _ => by simp [shb] at h
theorem reads2s (I : Inv X pins σ H s) (sm : ∀ o, s.heap.get? sysModules = some o → o.cls = .type "dict") : ∀ (ds : List D) (vs : List V) (us : List Value), shbs ds = true → RpL X.K H ds vs → Vals vs us → ∃ as, ReadsAll s.heap us (py2s ds) as ∧ sysModules ∉ as
  | [], vs, us, _, r, ru => by
    simp only [RpL] at r; subst r
    cases ru
    simp only [py2s]; exact ⟨_, ReadsAll.nil, List.not_mem_nil⟩
  | d :: ds, vs, us, h, r, ru => by
    simp only [RpL] at r
    obtain ⟨v, t, rfl, r1, r2⟩ := r
    cases ru with
    | cons u1 u2 =>
      simp only [shbs, Bool.and_eq_true] at h
      obtain ⟨as, q1, n1⟩ := reads2 I sm d _ _ h.1 r1 u1
      obtain ⟨bs, q2, n2⟩ := reads2s I sm ds _ _ h.2 r2 u2
      refine ⟨_, by simp only [py2s]; exact ReadsAll.cons q1 q2, fun z => ?_⟩
      rcases List.mem_append.mp z with z | z
      · exact n1 z
      · exact n2 z
theorem reads2k (I : Inv X pins σ H s) (sm : ∀ o, s.heap.get? sysModules = some o → o.cls = .type "dict") : ∀ (kvs : List (Key × D)) (xs : List (Key × V)) (vs : List (Key × Value)) (es : List DictEntry), shbk kvs = true → RpK X.K H kvs xs → KV xs vs → Pairs (mixKind X.prog X.w) es vs →
    ∃ as bs, ReadsAll s.heap (es.map (·.key)) ((py2k kvs).map (·.1)) as ∧ ReadsAll s.heap (es.map (·.val)) ((py2k kvs).map (·.2)) bs ∧ sysModules ∉ as ∧ sysModules ∉ bs
  | [], xs, vs, es, _, r, ru, hp => by
    simp only [RpK] at r; subst r
    cases ru
    cases hp
    simp only [py2k]; exact ⟨_, _, ReadsAll.nil, ReadsAll.nil, List.not_mem_nil, List.not_mem_nil⟩
  | (k, d) :: kvs, xs, vs, es, h, r, ru, hp => by
    simp only [RpK] at r
    obtain ⟨v, t, rfl, r1, r2⟩ := r
    cases ru with
    | cons u1 u2 =>
      cases hp with
      | @cons en kv2 es2 kvs2 p1 p2 p3 =>
        simp only [shbk, Bool.and_eq_true] at h
        obtain ⟨e1, e2⟩ := u1
        obtain ⟨as, q1, n1⟩ := reads2 I sm d _ _ h.1 r1 e2
        obtain ⟨cs, bs, q2, q3, n2, n3⟩ := reads2k I sm kvs _ _ _ h.2 r2 u2 p3
        rw [← p2] at q1
        rw [← e1] at p1
        have kr : Reads s.heap en.key (keyP k) [] := by
          rcases keyIs_shape p1 with ⟨i, t, hk, hv⟩ | ⟨x, t, hk, hv⟩
          · rw [hv]; rw [show k = Sum.inl i from hk]; exact Reads.int i t
          · rw [hv]; rw [show k = Sum.inr x from hk]; exact Reads.str x t
        refine ⟨_, _, by simp only [py2k, List.map_cons]; exact ReadsAll.cons kr q2, by simp only [py2k, List.map_cons]; exact ReadsAll.cons q1 q3, ?_, fun z => ?_⟩
        · simpa using n2
        · rcases List.mem_append.mp z with z | z
          · exact n1 z
          · exact n3 z
end
end
/-- the table of modules is a dict -/
def SmK (K : PySem.W.Frag) : Prop := ∃ o, K.lookup sysModules = some o ∧ o.cls = .type "dict"
def smB (K : PySem.W.Frag) : Bool := match K.lookup sysModules with
  | some ⟨.type t, _, _, _⟩ => decide (t = "dict")
  | _ => false
theorem sm_ok {K : PySem.W.Frag} (h : smB K = true) : SmK K := by
  unfold smB at h
  split at h
  · rename_i t d dt sl e
    rw [decide_eq_true_eq] at h
    subst h
    exact ⟨_, e, rfl⟩
  · cases h
section
variable {P : Program} {w : World} {K : PySem.W.Frag} {mg : Str → Option Value} {base : Heap} {T : Tb} {k : Nat} {Y : Co} {M : Mem} {Q : PD} {E : PX} {X : Cx} {σ : L2.St} {B : Hp} {ds : List D}
theorem repr_L (hG : X.A.guards = some []) (hu : X.A.units + 66 < cLine) (sm : SmK X.K) (hb : shbs ds = true) (hs : (PyData.list (py2s ds)).showable = true) (hd : (PyData.list (py2s ds)).depth ≤ 64) (hz : (PyData.list (py2s ds)).shown.length ≤ sizeLine) : CD X (.builtin "repr") [.lst ds] (Eq (.str (PyData.list (py2s ds)).shown)) := by
  refine cd_of (f := .builtin "repr") (r := fun xs H Q => ∃ v, xs = [v] ∧ Rp X.K H (.lst ds) v ∧ Q (.str (PyData.list (py2s ds)).shown) H) ?_ fun vs B H Q hx r k => ?_
  · intro pins s σ H xs us Q I r h
    obtain ⟨v, rfl, hv, q⟩ := h
    obtain ⟨u, rfl, ru⟩ := vals1 r
    obtain ⟨o, lk, hc⟩ := sm
    have sm2 : ∀ o, s.heap.get? sysModules = some o → o.cls = .type "dict" := fun o' e => by
      have := I.kIn _ _ lk
      rw [e] at this; cases this; exact hc
    obtain ⟨as, rd, na⟩ := reads2 I sm2 (.lst ds) v u (by simpa only [shb] using hb) hv ru
    obtain ⟨a, xs, rfl, _⟩ := Rp.lst.mp hv
    cases ru
    simp only [py2] at rd
    exact repr_of_reads' rd hs (fun _ => na) hG (by omega) (fun _ _ z => z) (fun h' u tk hk => ⟨.str _, H, I.kept (t' := tk) hk, ⟨_, rfl⟩, q⟩) hz
  · obtain ⟨v, rfl, rv⟩ := rpl1 r
    exact ⟨v, rfl, rv.mono hx, k _ _ B H (Step.refl hx) rfl (Rp.str.mpr rfl)⟩
theorem cc_reprL (C : CoOk Y P w K mg base k) (sm : SmK K) (hb : shbs ds = true) (hs : (PyData.list (py2s ds)).showable = true) (hd : (PyData.list (py2s ds)).depth ≤ 64) (hz : (PyData.list (py2s ds)).shown.length ≤ sizeLine) (q : Q (.str (PyData.list (py2s ds)).shown) M) : CC Y T (.builtin "repr") [.lst ds] M Q E :=
  cc_e (fun X hY _ => by
    have hG := (C.ex hY).2.2.2.2.2.2
    have sm2 : SmK X.K := by rw [(C.ex hY).2.2.1]; exact sm
    exact repr_L hG (C.u64 hY) sm2 hb hs hd hz) q (by simp [nrs, nr])
end
end Wx
set_option Elab.async false
set_option linter.all false
set_option maxRecDepth 100000
set_option maxHeartbeats 4000000
/-! Wx: isinstance of values whose type is known. -/
namespace Wx
open PySem L2 Fx PySem.Spec PyProof.Rows
section
variable {P : Program} {w : World} {K : PySem.W.Frag} {mg : Str → Option Value} {base : Heap} {T : Tb} {k : Nat} {Y : Co} {M : Mem} {Q : PD} {E : PX} {x : Str} {n : String} {d : D} {l : Sl} {Γ : Gm} {a : IE} {es : List IE}
theorem cc_isi {t : Value} {b : Bool} (C : CoOk Y P w K mg base k) (h : TyD K d t) (hk : PySem.W.kitOne K t (.type n) = some b) (q : Q (.bl b) M) (hn : nr d = true) : CC Y T (.builtin "isinstance") [d, .ty n] M Q E :=
  cc_e (fun X hY _ => by
    have e := (C.ex hY).2.2.1
    exact cd_isi (by rw [e]; exact h) (by rw [e]; exact hk)) q (by simp only [nrs, List.all_cons, List.all_nil, hn, Bool.true_and, Bool.and_true]; rfl)
/-- the name of a built-in type -/
theorem we_ty (C : CoOk Y P w K mg base k) (h : mg x = none) (b : bootBuiltins x = some (.type n)) (q : Q (.ty n) M) (hx : x ≠ "__name__" := by decide) : wE Y T Γ (.gl x) l M Q E := we_gl (.inr ⟨n, by rw [C.mg]; exact h, b, hx, rfl⟩) q
/-- whether a value is an int and no bool, .. a list or a tuple -/
def isIn : D → Bool
  | .int _ => true | _ => false
def isLs : D → Bool
  | .lst _ => true | .tup _ => true | _ => false
/-- .. and what is known of its type -/
def TyI (K : PySem.W.Frag) (d : D) : Prop := ∃ t b1 b2, TyD K d t ∧ PySem.W.kitOne K t (.type "int") = some b1 ∧ PySem.W.kitOne K t (.type "bool") = some b2 ∧ (b1 && !b2) = isIn d ∧ nr d = true ∧ (b1 = false → isIn d = false)
theorem tyI {d : D} (h : (match d with | .non => true | .bl _ => true | .int _ => true | .str _ => true | .lst _ => true | .tup _ => true | .dic _ => true | _ => false) = true) : TyI K d := by
  cases d with
  | non => exact ⟨_, _, _, rfl, rfl, rfl, rfl, rfl, fun _ => rfl⟩
  | bl b => exact ⟨_, _, _, rfl, rfl, rfl, rfl, rfl, fun _ => rfl⟩
  | int i => exact ⟨_, _, _, rfl, kit_self, rfl, rfl, rfl, fun h => nomatch h⟩
  | str z => exact ⟨_, _, _, rfl, rfl, rfl, rfl, rfl, fun _ => rfl⟩
  | lst z => exact ⟨_, _, _, rfl, rfl, rfl, rfl, rfl, fun _ => rfl⟩
  | tup z => exact ⟨_, _, _, rfl, rfl, rfl, rfl, rfl, fun _ => rfl⟩
  | dic z => exact ⟨_, _, _, rfl, rfl, rfl, rfl, rfl, fun _ => rfl⟩
  | _ => cases h
/-! ### tuples, properties -/
variable {ds xs ys : List D} {lo hi : Option Int} {C : Addr} {f : Addr} {fd : FuncData} {ps : List Str} {pre : List D → Prop} {post : List D → D → Prop} {j : Nat}
theorem pc_tup (q : Q (.tup (cutD ds lo hi)) M) : PC' Y T (.tup ds) lo hi M Q E := fun X l hY hc pins s σ B H v vv vl vu sl I S rx rv hs p1 p2 Qv W tk kn kx => by
  obtain ⟨a, vs, rfl, h1, h2⟩ := Rp.tup.mp rx
  refine sl_tupA pins s σ H _ vv vl vu lo hi sl Qv I rv hs p1 p2 ⟨a, vs, rfl, S.ex.t h1, fun hw => ?_, fun hw p hp => ?_⟩
  · have e : cutV vs lo hi = vs := by unfold cutV; rw [hw.1, hw.2]; simp
    have r := h2.cut (lo := lo) (hi := hi)
    rw [e] at r
    exact kn _ (.tup (cutD ds lo hi)) M B H Go.refl S (Rp.tup.mpr ⟨a, vs, rfl, h1, r⟩) q
  · obtain ⟨g2, S2⟩ := S.step (Step.alloc (o := .tup (cutV vs lo hi)) S.ex hp)
    exact kn _ (.tup (cutD ds lo hi)) M _ _ g2 S2 (rpN nt_ex (Rp.tup.mpr ⟨p, _, rfl, SqT.of upd_same, h2.cut.mono (Ex.new (S.ex.back hp))⟩)) q
theorem oc_catT (h : xs.length + ys.length ≤ sizeLine) (q : Q (.tup (xs ++ ys)) M) : OC Y T (binaryOp .Add) (.tup xs) (.tup ys) M Q E := fun X l hY hc pins s σ B H v u vv uu I S rx ry rv ru Qv W tk kn kx => by
  obtain ⟨a, vs, rfl, h1, h2⟩ := Rp.tup.mp rx
  obtain ⟨b, us, rfl, h3, h4⟩ := Rp.tup.mp ry
  refine op_catA pins s σ H _ _ vv uu Qv I rv ru ⟨a, b, vs, us, rfl, rfl, S.ex.t h1, S.ex.t h3, by rw [← h2.length, ← h4.length]; exact h, fun e => ?_, fun _ e => ?_, fun _ _ p hp => ?_⟩
  · subst e
    have e2 : xs = [] := List.length_eq_zero_iff.mp (by rw [h2.length]; rfl)
    subst e2
    exact kn _ (.tup ([] ++ ys)) M B H Go.refl S (Rp.tup.mpr ⟨b, us, rfl, h3, h4⟩) q
  · subst e
    have e2 : ys = [] := List.length_eq_zero_iff.mp (by rw [h4.length]; rfl)
    subst e2
    exact kn _ (.tup (xs ++ [])) M B H Go.refl S (Rp.tup.mpr ⟨a, vs, rfl, h1, by rw [List.append_nil]; exact h2⟩) q
  · obtain ⟨g2, S2⟩ := S.step (Step.alloc (o := .tup (vs ++ us)) S.ex hp)
    exact kn _ (.tup (xs ++ ys)) M _ _ g2 S2 (rpN nt_ex (Rp.tup.mpr ⟨p, vs ++ us, rfl, SqT.of upd_same, (h2.append h4).mono (Ex.new (S.ex.back hp))⟩)) q
theorem ac_prop {n : Str} {p0 : Addr} {fs : List (Str × D)} (C' : CoOk Y P w K mg base k) (hc : Cls K C) (hp : PropOf K C n p0 f) (F : FnOk P w K mg base CX0 j f fd ps (spD K pre post)) (hj : j + 1 ≤ k) (hb : Binds K fd ps []) (hpre : pre [.obj C fs]) (hq : ∀ d, post [.obj C fs] d → Q d M) : AC Y T n (.obj C fs) M Q E := fun X l hY _ pins s σ B H v vv I S rx rv Qv W tk kn kx => by
  obtain ⟨rfl, rfl, rfl, rfl, rfl, hr, hG⟩ := C'.ex hY
  obtain ⟨a, dx, gs, rfl, h1, h2⟩ := Rp.obj.mp rx
  cases rv
  exact getprop_ok (E := E0) I (S.ex _ _ h1) hc hp F (hr.mono hj) hb .nil pass0 ⟨[.obj C fs], B, S.ex, RpL.cons rx RpL.nil, hpre, fun v d B' H' st pd rd => by
    obtain ⟨g, S'⟩ := S.step st
    exact kn v d M _ H' g S' (rpN nt_ex rd) (hq d pd)⟩
end
end Wx
set_option Elab.async false
set_option linter.all false
set_option maxRecDepth 100000
set_option maxHeartbeats 4000000
/-! Law k13: the text by places, what the top has written. -/
namespace Fk
open PySem L2 Fx
abbrev top (i : Nat) : Stmt := PySem.Challenge.pw_fixrest_k13_rows_cut.main.body.getD i (.Pass ⟨0, 0, 0, 0⟩)
abbrev s_is_integer : Stmt := top 13
abbrev s_is_count : Stmt := top 14
abbrev s_is_list : Stmt := top 15
abbrev s_is_name : Stmt := top 16
abbrev s_want_few_runs : Stmt := top 17
abbrev s_l_pot : Stmt := top 20
abbrev s_l_draw : Stmt := top 21
abbrev s_l_pick : Stmt := top 22
abbrev s_l_labels : Stmt := top 23
abbrev s_l_told : Stmt := top 24
abbrev s_l_ends_right : Stmt := top 25
abbrev s_l_counts_right : Stmt := top 26
abbrev s_l_wrong : Stmt := top 27
abbrev s_l_kept_right : Stmt := top 28
abbrev s_l_no_lists_right : Stmt := top 29
abbrev s_l_right : Stmt := top 30
abbrev s_law : Stmt := top 31
abbrev s_Row_init : Stmt := inClass (top 18) 1
abbrev s_Row_names : Stmt := inClass (top 18) 3
abbrev s_Row_want_many : Stmt := inClass (top 18) 7
abbrev s_Row_want_position : Stmt := inClass (top 18) 8
abbrev s_Row_first : Stmt := inClass (top 18) 9
abbrev s_Row_after : Stmt := inClass (top 18) 10
abbrev s_Row_without : Stmt := inClass (top 18) 11
abbrev s_Row_kept : Stmt := inClass (top 18) 12
abbrev s_Row_add : Stmt := inClass (top 18) 18
abbrev s_Row_invert : Stmt := inClass (top 18) 21
abbrev s_Row_eq : Stmt := inClass (top 18) 22
abbrev s_InvalidCount_init : Stmt := inClass (top 4) 0
abbrev s_InvalidPosition_init : Stmt := inClass (top 5) 0
abbrev s_InvalidPositions_init : Stmt := inClass (top 6) 0
/-- 0:value -/
abbrev N_is_integer : List Str := ["value"]
theorem sc_is_integer : FnScope N_is_integer ["value"] (defScope s_is_integer) := ⟨rfl, rfl, rfl, by decide +kernel, rfl, by decide +kernel, by decide +kernel⟩
/-- 0:value -/
abbrev N_is_count : List Str := ["value"]
theorem sc_is_count : FnScope N_is_count ["value"] (defScope s_is_count) := ⟨rfl, rfl, rfl, by decide +kernel, rfl, by decide +kernel, by decide +kernel⟩
/-- 0:value -/
abbrev N_is_list : List Str := ["value"]
theorem sc_is_list : FnScope N_is_list ["value"] (defScope s_is_list) := ⟨rfl, rfl, rfl, by decide +kernel, rfl, by decide +kernel, by decide +kernel⟩
/-- 0:value 1:sign -/
abbrev N_is_name : List Str := ["value", "sign"]
theorem sc_is_name : FnScope N_is_name ["value"] (defScope s_is_name) := ⟨rfl, rfl, rfl, by decide +kernel, rfl, by decide +kernel, by decide +kernel⟩
/-- 0:many -/
abbrev N_want_few_runs : List Str := ["many"]
theorem sc_want_few_runs : FnScope N_want_few_runs ["many"] (defScope s_want_few_runs) := ⟨rfl, rfl, rfl, by decide +kernel, rfl, by decide +kernel, by decide +kernel⟩
/-- 0:_law_script 1:_law_k 2:_law_cell -/
abbrev N_l_pot : List Str := ["_law_script", "_law_k", "_law_cell"]
theorem sc_l_pot : FnScope N_l_pot ["_law_script", "_law_k"] (defScope s_l_pot) := ⟨rfl, rfl, rfl, by decide +kernel, rfl, by decide +kernel, by decide +kernel⟩
/-- 0:_law_pot_here 1:_law_sides 2:_law_digit -/
abbrev N_l_draw : List Str := ["_law_pot_here", "_law_sides", "_law_digit"]
theorem sc_l_draw : FnScope N_l_draw ["_law_pot_here", "_law_sides"] (defScope s_l_draw) := ⟨rfl, rfl, rfl, by decide +kernel, rfl, by decide +kernel, by decide +kernel⟩
/-- 0:_law_pot_here 1:_law_some -/
abbrev N_l_pick : List Str := ["_law_pot_here", "_law_some"]
theorem sc_l_pick : FnScope N_l_pick ["_law_pot_here", "_law_some"] (defScope s_l_pick) := ⟨rfl, rfl, rfl, by decide +kernel, rfl, by decide +kernel, by decide +kernel⟩
/-- 0:_law_pot_here 1:_law_size 2:_law_found 3:_law_signs 4:_law_k 5:_law_label 6:_law_spare 7:_law_turn 8:_law_sign 9:_law_near -/
abbrev N_l_labels : List Str := ["_law_pot_here", "_law_size", "_law_found", "_law_signs", "_law_k", "_law_label", "_law_spare", "_law_turn", "_law_sign", "_law_near"]
theorem sc_l_labels : FnScope N_l_labels ["_law_pot_here", "_law_size"] (defScope s_l_labels) := ⟨rfl, rfl, rfl, by decide +kernel, rfl, by decide +kernel, by decide +kernel⟩
/-- 0:_law_call 1:_law_told_here 2:e 3:_law_alone -/
abbrev N_l_told : List Str := ["_law_call", "_law_told_here", "e", "_law_alone"]
theorem sc_l_told : FnScope N_l_told ["_law_call"] (defScope s_l_told) := ⟨rfl, rfl, rfl, by decide +kernel, rfl, by decide +kernel, by decide +kernel⟩
/-- 0:_law_made 1:_law_word 2:_law_k 3:_law_told_here 4:_law_some -/
abbrev N_l_ends_right : List Str := ["_law_made", "_law_word", "_law_k", "_law_told_here", "_law_some"]
theorem sc_l_ends_right : FnScope N_l_ends_right ["_law_made", "_law_word"] (defScope s_l_ends_right) := ⟨rfl, rfl, rfl, by decide +kernel, rfl, by decide +kernel, by decide +kernel⟩
/-- 0:_law_pot_here 1:_law_made 2:_law_word 3:_law_size 4:_law_odd 5:_law_thing 6:_law_told_here -/
abbrev N_l_counts_right : List Str := ["_law_pot_here", "_law_made", "_law_word", "_law_size", "_law_odd", "_law_thing", "_law_told_here"]
theorem sc_l_counts_right : FnScope N_l_counts_right ["_law_pot_here", "_law_made", "_law_word"] (defScope s_l_counts_right) := ⟨rfl, rfl, rfl, by decide +kernel, rfl, by decide +kernel, by decide +kernel⟩
/-- 0:_law_some 1:_law_size 2:_law_last 3:_law_at 4:_law_spot -/
abbrev N_l_wrong : List Str := ["_law_some", "_law_size", "_law_last", "_law_at", "_law_spot"]
theorem sc_l_wrong : FnScope N_l_wrong ["_law_some", "_law_size"] (defScope s_l_wrong) := ⟨rfl, rfl, rfl, by decide +kernel, rfl, by decide +kernel, by decide +kernel⟩
/-- 0:_law_pot_here 1:_law_made 2:_law_word 3:_law_spots 4:_law_handed 5:_law_shown 6:_law_due 7:_law_told_here 8:_law_again 9:_law_at 10:_law_odd 11:_law_spoilt 12:_law_wrong_here 13:_law_k -/
abbrev N_l_kept_right : List Str := ["_law_pot_here", "_law_made", "_law_word", "_law_spots", "_law_handed", "_law_shown", "_law_due", "_law_told_here", "_law_again", "_law_at", "_law_odd", "_law_spoilt", "_law_wrong_here", "_law_k"]
theorem sc_l_kept_right : FnScope N_l_kept_right ["_law_pot_here", "_law_made", "_law_word"] (defScope s_l_kept_right) := ⟨rfl, rfl, rfl, by decide +kernel, rfl, by decide +kernel, by decide +kernel⟩
/-- 0:_law_pot_here 1:_law_made 2:_law_odd -/
abbrev N_l_no_lists_right : List Str := ["_law_pot_here", "_law_made", "_law_odd"]
theorem sc_l_no_lists_right : FnScope N_l_no_lists_right ["_law_pot_here", "_law_made"] (defScope s_l_no_lists_right) := ⟨rfl, rfl, rfl, by decide +kernel, rfl, by decide +kernel, by decide +kernel⟩
/-- 0:_law_pot_here 1:_law_labels_here 2:_law_turn 3:_law_word 4:_law_made 5:_law_k 6:_law_gone -/
abbrev N_l_right : List Str := ["_law_pot_here", "_law_labels_here", "_law_turn", "_law_word", "_law_made", "_law_k", "_law_gone"]
theorem sc_l_right : FnScope N_l_right ["_law_pot_here"] (defScope s_l_right) := ⟨rfl, rfl, rfl, by decide +kernel, rfl, by decide +kernel, by decide +kernel⟩
/-- 0:_law_script 1:_law_k -/
abbrev N_law : List Str := ["_law_script", "_law_k"]
theorem sc_law : FnScope N_law ["_law_script"] (defScope s_law) := ⟨rfl, rfl, rfl, by decide +kernel, rfl, by decide +kernel, by decide +kernel⟩
/-- 0:self 1:names 2:position 3:name -/
abbrev N_Row_init : List Str := ["self", "names", "position", "name"]
theorem sc_Row_init : FnScope N_Row_init ["self", "names"] (defScope s_Row_init) := ⟨rfl, rfl, rfl, by decide +kernel, rfl, by decide +kernel, by decide +kernel⟩
/-- 0:self -/
abbrev N_Row_names : List Str := ["self"]
theorem sc_Row_names : FnScope N_Row_names ["self"] (defScope s_Row_names) := ⟨rfl, rfl, rfl, by decide +kernel, rfl, by decide +kernel, by decide +kernel⟩
/-- 0:self 1:many -/
abbrev N_Row_want_many : List Str := ["self", "many"]
theorem sc_Row_want_many : FnScope N_Row_want_many ["self", "many"] (defScope s_Row_want_many) := ⟨rfl, rfl, rfl, by decide +kernel, rfl, by decide +kernel, by decide +kernel⟩
/-- 0:self 1:position -/
abbrev N_Row_want_position : List Str := ["self", "position"]
theorem sc_Row_want_position : FnScope N_Row_want_position ["self", "position"] (defScope s_Row_want_position) := ⟨rfl, rfl, rfl, by decide +kernel, rfl, by decide +kernel, by decide +kernel⟩
/-- 0:self 1:many -/
abbrev N_Row_first : List Str := ["self", "many"]
theorem sc_Row_first : FnScope N_Row_first ["self", "many"] (defScope s_Row_first) := ⟨rfl, rfl, rfl, by decide +kernel, rfl, by decide +kernel, by decide +kernel⟩
/-- 0:self 1:many -/
abbrev N_Row_after : List Str := ["self", "many"]
theorem sc_Row_after : FnScope N_Row_after ["self", "many"] (defScope s_Row_after) := ⟨rfl, rfl, rfl, by decide +kernel, rfl, by decide +kernel, by decide +kernel⟩
/-- 0:self 1:position -/
abbrev N_Row_without : List Str := ["self", "position"]
theorem sc_Row_without : FnScope N_Row_without ["self", "position"] (defScope s_Row_without) := ⟨rfl, rfl, rfl, by decide +kernel, rfl, by decide +kernel, by decide +kernel⟩
/-- 0:self 1:positions 2:last 3:at 4:position -/
abbrev N_Row_kept : List Str := ["self", "positions", "last", "at", "position"]
theorem sc_Row_kept : FnScope N_Row_kept ["self", "positions"] (defScope s_Row_kept) := ⟨rfl, rfl, rfl, by decide +kernel, rfl, by decide +kernel, by decide +kernel⟩
/-- 0:self 1:other -/
abbrev N_Row_add : List Str := ["self", "other"]
theorem sc_Row_add : FnScope N_Row_add ["self", "other"] (defScope s_Row_add) := ⟨rfl, rfl, rfl, by decide +kernel, rfl, by decide +kernel, by decide +kernel⟩
/-- 0:self -/
abbrev N_Row_invert : List Str := ["self"]
theorem sc_Row_invert : FnScope N_Row_invert ["self"] (defScope s_Row_invert) := ⟨rfl, rfl, rfl, by decide +kernel, rfl, by decide +kernel, by decide +kernel⟩
/-- 0:self 1:other -/
abbrev N_Row_eq : List Str := ["self", "other"]
theorem sc_Row_eq : FnScope N_Row_eq ["self", "other"] (defScope s_Row_eq) := ⟨rfl, rfl, rfl, by decide +kernel, rfl, by decide +kernel, by decide +kernel⟩
/-- 0:self 1:value -/
abbrev N_InvalidCount_init : List Str := ["self", "value"]
theorem sc_InvalidCount_init : FnScope N_InvalidCount_init ["self", "value"] (defScope s_InvalidCount_init) := ⟨rfl, rfl, rfl, by decide +kernel, rfl, by decide +kernel, by decide +kernel⟩
theorem ib_InvalidCount_init : Wx.initB (defScope s_InvalidCount_init) "value" "value" (defBody s_InvalidCount_init) = true := by decide +kernel
/-- 0:self 1:value -/
abbrev N_InvalidPosition_init : List Str := ["self", "value"]
theorem sc_InvalidPosition_init : FnScope N_InvalidPosition_init ["self", "value"] (defScope s_InvalidPosition_init) := ⟨rfl, rfl, rfl, by decide +kernel, rfl, by decide +kernel, by decide +kernel⟩
theorem ib_InvalidPosition_init : Wx.initB (defScope s_InvalidPosition_init) "value" "value" (defBody s_InvalidPosition_init) = true := by decide +kernel
/-- 0:self 1:position -/
abbrev N_InvalidPositions_init : List Str := ["self", "position"]
theorem sc_InvalidPositions_init : FnScope N_InvalidPositions_init ["self", "position"] (defScope s_InvalidPositions_init) := ⟨rfl, rfl, rfl, by decide +kernel, rfl, by decide +kernel, by decide +kernel⟩
theorem ib_InvalidPositions_init : Wx.initB (defScope s_InvalidPositions_init) "position" "position" (defBody s_InvalidPositions_init) = true := by decide +kernel
/-- what the top has written -/
structure Tx (K : PySem.W.Frag) (mg : Str → Option Value) : Type where
  a_is_integer : Addr
  d_is_integer : FuncData
  f_is_integer : Fun K "is_integer" "is_integer" s_is_integer a_is_integer d_is_integer
  b_is_integer : Binds K d_is_integer ["value"] []
  m_is_integer : mg "is_integer" = some (.ref a_is_integer)
  a_is_count : Addr
  d_is_count : FuncData
  f_is_count : Fun K "is_count" "is_count" s_is_count a_is_count d_is_count
  b_is_count : Binds K d_is_count ["value"] []
  m_is_count : mg "is_count" = some (.ref a_is_count)
  a_is_list : Addr
  d_is_list : FuncData
  f_is_list : Fun K "is_list" "is_list" s_is_list a_is_list d_is_list
  b_is_list : Binds K d_is_list ["value"] []
  m_is_list : mg "is_list" = some (.ref a_is_list)
  a_is_name : Addr
  d_is_name : FuncData
  f_is_name : Fun K "is_name" "is_name" s_is_name a_is_name d_is_name
  b_is_name : Binds K d_is_name ["value"] []
  m_is_name : mg "is_name" = some (.ref a_is_name)
  a_want_few_runs : Addr
  d_want_few_runs : FuncData
  f_want_few_runs : Fun K "want_few_runs" "want_few_runs" s_want_few_runs a_want_few_runs d_want_few_runs
  b_want_few_runs : Binds K d_want_few_runs ["many"] []
  m_want_few_runs : mg "want_few_runs" = some (.ref a_want_few_runs)
  a_l_pot : Addr
  d_l_pot : FuncData
  f_l_pot : Fun K "_law_pot" "_law_pot" s_l_pot a_l_pot d_l_pot
  b_l_pot : Binds K d_l_pot ["_law_script", "_law_k"] []
  m_l_pot : mg "_law_pot" = some (.ref a_l_pot)
  a_l_draw : Addr
  d_l_draw : FuncData
  f_l_draw : Fun K "_law_draw" "_law_draw" s_l_draw a_l_draw d_l_draw
  b_l_draw : Binds K d_l_draw ["_law_pot_here", "_law_sides"] []
  m_l_draw : mg "_law_draw" = some (.ref a_l_draw)
  a_l_pick : Addr
  d_l_pick : FuncData
  f_l_pick : Fun K "_law_pick" "_law_pick" s_l_pick a_l_pick d_l_pick
  b_l_pick : Binds K d_l_pick ["_law_pot_here", "_law_some"] []
  m_l_pick : mg "_law_pick" = some (.ref a_l_pick)
  a_l_labels : Addr
  d_l_labels : FuncData
  f_l_labels : Fun K "_law_labels" "_law_labels" s_l_labels a_l_labels d_l_labels
  b_l_labels : Binds K d_l_labels ["_law_pot_here", "_law_size"] []
  m_l_labels : mg "_law_labels" = some (.ref a_l_labels)
  a_l_told : Addr
  d_l_told : FuncData
  f_l_told : Fun K "_law_told" "_law_told" s_l_told a_l_told d_l_told
  b_l_told : Binds K d_l_told ["_law_call"] []
  m_l_told : mg "_law_told" = some (.ref a_l_told)
  a_l_ends_right : Addr
  d_l_ends_right : FuncData
  f_l_ends_right : Fun K "_law_ends_right" "_law_ends_right" s_l_ends_right a_l_ends_right d_l_ends_right
  b_l_ends_right : Binds K d_l_ends_right ["_law_made", "_law_word"] []
  m_l_ends_right : mg "_law_ends_right" = some (.ref a_l_ends_right)
  a_l_counts_right : Addr
  d_l_counts_right : FuncData
  f_l_counts_right : Fun K "_law_counts_right" "_law_counts_right" s_l_counts_right a_l_counts_right d_l_counts_right
  b_l_counts_right : Binds K d_l_counts_right ["_law_pot_here", "_law_made", "_law_word"] []
  m_l_counts_right : mg "_law_counts_right" = some (.ref a_l_counts_right)
  cd_l_counts_right : Addr
  P_l_counts_right : Addr
  co_l_counts_right : d_l_counts_right.code = .ref cd_l_counts_right
  a_l_wrong : Addr
  d_l_wrong : FuncData
  f_l_wrong : Fun K "_law_wrong" "_law_wrong" s_l_wrong a_l_wrong d_l_wrong
  b_l_wrong : Binds K d_l_wrong ["_law_some", "_law_size"] []
  m_l_wrong : mg "_law_wrong" = some (.ref a_l_wrong)
  a_l_kept_right : Addr
  d_l_kept_right : FuncData
  f_l_kept_right : Fun K "_law_kept_right" "_law_kept_right" s_l_kept_right a_l_kept_right d_l_kept_right
  b_l_kept_right : Binds K d_l_kept_right ["_law_pot_here", "_law_made", "_law_word"] []
  m_l_kept_right : mg "_law_kept_right" = some (.ref a_l_kept_right)
  cd_l_kept_right : Addr
  P_l_kept_right : Addr
  co_l_kept_right : d_l_kept_right.code = .ref cd_l_kept_right
  a_l_no_lists_right : Addr
  d_l_no_lists_right : FuncData
  f_l_no_lists_right : Fun K "_law_no_lists_right" "_law_no_lists_right" s_l_no_lists_right a_l_no_lists_right d_l_no_lists_right
  b_l_no_lists_right : Binds K d_l_no_lists_right ["_law_pot_here", "_law_made"] []
  m_l_no_lists_right : mg "_law_no_lists_right" = some (.ref a_l_no_lists_right)
  cd_l_no_lists_right : Addr
  P_l_no_lists_right : Addr
  co_l_no_lists_right : d_l_no_lists_right.code = .ref cd_l_no_lists_right
  a_l_right : Addr
  d_l_right : FuncData
  f_l_right : Fun K "_law_right" "_law_right" s_l_right a_l_right d_l_right
  b_l_right : Binds K d_l_right ["_law_pot_here"] []
  m_l_right : mg "_law_right" = some (.ref a_l_right)
  a_law : Addr
  d_law : FuncData
  f_law : Fun K "law" "law" s_law a_law d_law
  b_law : Binds K d_law ["_law_script"] []
  m_law : mg "law" = some (.ref a_law)
  bl_law : ∀ (s : Shared) (u : Value), BindsTo s d_law ⟨[u], []⟩ [("_law_script", u)]
  a_Row_init : Addr
  d_Row_init : FuncData
  f_Row_init : FunA K "__init__" "Row.__init__" s_Row_init a_Row_init d_Row_init
  b_Row_init : Binds K d_Row_init ["self", "names"] []
  e_Row_init : Addr
  b0_Row_init : Binds K d_Row_init ["self", "names"] [.ref e_Row_init]
  v0_Row_init : ∀ H : Hp, SqT K H e_Row_init []
  bk_Row_init : KBn K d_Row_init ["self", "names"] 1 ["names"] (fun us ws => us ++ ws) (fun vs zs => vs ++ zs)
  a_Row_names : Addr
  d_Row_names : FuncData
  f_Row_names : Fun K "names" "Row.names" s_Row_names a_Row_names d_Row_names
  b_Row_names : Binds K d_Row_names ["self"] []
  a_Row_want_many : Addr
  d_Row_want_many : FuncData
  f_Row_want_many : Fun K "want_many" "Row.want_many" s_Row_want_many a_Row_want_many d_Row_want_many
  b_Row_want_many : Binds K d_Row_want_many ["self", "many"] []
  a_Row_want_position : Addr
  d_Row_want_position : FuncData
  f_Row_want_position : Fun K "want_position" "Row.want_position" s_Row_want_position a_Row_want_position d_Row_want_position
  b_Row_want_position : Binds K d_Row_want_position ["self", "position"] []
  a_Row_first : Addr
  d_Row_first : FuncData
  f_Row_first : Fun K "first" "Row.first" s_Row_first a_Row_first d_Row_first
  b_Row_first : Binds K d_Row_first ["self", "many"] []
  bk_Row_first : KBn K d_Row_first ["self", "many"] 1 ["many"] (fun us ws => us ++ ws) (fun vs zs => vs ++ zs)
  a_Row_after : Addr
  d_Row_after : FuncData
  f_Row_after : Fun K "after" "Row.after" s_Row_after a_Row_after d_Row_after
  b_Row_after : Binds K d_Row_after ["self", "many"] []
  bk_Row_after : KBn K d_Row_after ["self", "many"] 1 ["many"] (fun us ws => us ++ ws) (fun vs zs => vs ++ zs)
  a_Row_without : Addr
  d_Row_without : FuncData
  f_Row_without : Fun K "without" "Row.without" s_Row_without a_Row_without d_Row_without
  b_Row_without : Binds K d_Row_without ["self", "position"] []
  bk_Row_without : KBn K d_Row_without ["self", "position"] 1 ["position"] (fun us ws => us ++ ws) (fun vs zs => vs ++ zs)
  a_Row_kept : Addr
  d_Row_kept : FuncData
  f_Row_kept : Fun K "kept" "Row.kept" s_Row_kept a_Row_kept d_Row_kept
  b_Row_kept : Binds K d_Row_kept ["self", "positions"] []
  bk_Row_kept : KBn K d_Row_kept ["self", "positions"] 1 ["positions"] (fun us ws => us ++ ws) (fun vs zs => vs ++ zs)
  a_Row_add : Addr
  d_Row_add : FuncData
  f_Row_add : Fun K "__add__" "Row.__add__" s_Row_add a_Row_add d_Row_add
  b_Row_add : Binds K d_Row_add ["self", "other"] []
  a_Row_invert : Addr
  d_Row_invert : FuncData
  f_Row_invert : Fun K "__invert__" "Row.__invert__" s_Row_invert a_Row_invert d_Row_invert
  b_Row_invert : Binds K d_Row_invert ["self"] []
  a_Row_eq : Addr
  d_Row_eq : FuncData
  f_Row_eq : Fun K "__eq__" "Row.__eq__" s_Row_eq a_Row_eq d_Row_eq
  b_Row_eq : Binds K d_Row_eq ["self", "other"] []
  a_InvalidCount_init : Addr
  d_InvalidCount_init : FuncData
  f_InvalidCount_init : FunA K "__init__" "InvalidCount.__init__" s_InvalidCount_init a_InvalidCount_init d_InvalidCount_init
  b_InvalidCount_init : Binds K d_InvalidCount_init ["self", "value"] []
  a_InvalidPosition_init : Addr
  d_InvalidPosition_init : FuncData
  f_InvalidPosition_init : FunA K "__init__" "InvalidPosition.__init__" s_InvalidPosition_init a_InvalidPosition_init d_InvalidPosition_init
  b_InvalidPosition_init : Binds K d_InvalidPosition_init ["self", "value"] []
  a_InvalidPositions_init : Addr
  d_InvalidPositions_init : FuncData
  f_InvalidPositions_init : FunA K "__init__" "InvalidPositions.__init__" s_InvalidPositions_init a_InvalidPositions_init d_InvalidPositions_init
  b_InvalidPositions_init : Binds K d_InvalidPositions_init ["self", "position"] []
  C_Row : Addr
  m_Row : mg "Row" = some (.ref C_Row)
  sf_Row : PySem.W.selfFirst K C_Row = true
  own_Row : OwnTy K C_Row
  mk_Row : Mk K C_Row a_Row_init
  pr_Row_names : ∃ p0, PropOf K C_Row "names" p0 a_Row_names
  me_Row_want_many : Meth K C_Row "want_many" a_Row_want_many
  me_Row_want_position : Meth K C_Row "want_position" a_Row_want_position
  me_Row_first : Meth K C_Row "first" a_Row_first
  me_Row_after : Meth K C_Row "after" a_Row_after
  me_Row_without : Meth K C_Row "without" a_Row_without
  me_Row_kept : Meth K C_Row "kept" a_Row_kept
  sp_Row_add : Spc K C_Row "__add__" a_Row_add
  sp_Row_invert : Spc K C_Row "__invert__" a_Row_invert
  sp_Row_eq : Spc K C_Row "__eq__" a_Row_eq
  n_Row_own_names : NoAttr K C_Row "own_names"
  rd_Row : ClX.CRead K C_Row (.type "type")
  ne_Row : PySem.W.findIn K (.ref C_Row) "__ne__" = some (some (.builtin "object.__ne__"))
  su_Row_NoneType : PySem.W.subIn K (.type "NoneType") (.ref C_Row) = some false
  su_Row_bool : PySem.W.subIn K (.type "bool") (.ref C_Row) = some false
  su_Row_int : PySem.W.subIn K (.type "int") (.ref C_Row) = some false
  su_Row_str : PySem.W.subIn K (.type "str") (.ref C_Row) = some false
  su_Row_list : PySem.W.subIn K (.type "list") (.ref C_Row) = some false
  su_Row_tuple : PySem.W.subIn K (.type "tuple") (.ref C_Row) = some false
  su_Row_dict : PySem.W.subIn K (.type "dict") (.ref C_Row) = some false
  so_Row : PySem.W.subIn K (.ref C_Row) (.type "str") = some false
  ci_Row : PySem.W.isClsIn K C_Row = true
  ti_Row : PySem.W.typeIn K (.ref C_Row) = some (.type "type")
  C_InvalidCount : Addr
  er_InvalidCount : Wx.ErrC K mg "InvalidCount" C_InvalidCount a_InvalidCount_init "value"
  xc_InvalidCount : ExcC K C_InvalidCount
  xf_InvalidCount : XfC K C_InvalidCount
  C_InvalidPosition : Addr
  er_InvalidPosition : Wx.ErrC K mg "InvalidPosition" C_InvalidPosition a_InvalidPosition_init "value"
  xc_InvalidPosition : ExcC K C_InvalidPosition
  xf_InvalidPosition : XfC K C_InvalidPosition
  C_InvalidPositions : Addr
  er_InvalidPositions : Wx.ErrC K mg "InvalidPositions" C_InvalidPositions a_InvalidPositions_init "position"
  xc_InvalidPositions : ExcC K C_InvalidPositions
  xf_InvalidPositions : XfC K C_InvalidPositions
  C_FixError : Addr
  m_FixError : mg "FixError" = some (.ref C_FixError)
  xm_InvalidCount_InvalidCount : PySem.W.exmOne K (.ref C_InvalidCount) (.ref C_InvalidCount) = some true
  ko_InvalidCount_InvalidCount : PySem.W.kitOne K (.ref C_InvalidCount) (.ref C_InvalidCount) = some true
  xm_InvalidCount_InvalidPosition : PySem.W.exmOne K (.ref C_InvalidCount) (.ref C_InvalidPosition) = some false
  ko_InvalidCount_InvalidPosition : PySem.W.kitOne K (.ref C_InvalidCount) (.ref C_InvalidPosition) = some false
  xm_InvalidCount_InvalidPositions : PySem.W.exmOne K (.ref C_InvalidCount) (.ref C_InvalidPositions) = some false
  ko_InvalidCount_InvalidPositions : PySem.W.kitOne K (.ref C_InvalidCount) (.ref C_InvalidPositions) = some false
  xm_InvalidCount_FixError : PySem.W.exmOne K (.ref C_InvalidCount) (.ref C_FixError) = some true
  ko_InvalidCount_FixError : PySem.W.kitOne K (.ref C_InvalidCount) (.ref C_FixError) = some true
  xm_InvalidPosition_InvalidCount : PySem.W.exmOne K (.ref C_InvalidPosition) (.ref C_InvalidCount) = some false
  ko_InvalidPosition_InvalidCount : PySem.W.kitOne K (.ref C_InvalidPosition) (.ref C_InvalidCount) = some false
  xm_InvalidPosition_InvalidPosition : PySem.W.exmOne K (.ref C_InvalidPosition) (.ref C_InvalidPosition) = some true
  ko_InvalidPosition_InvalidPosition : PySem.W.kitOne K (.ref C_InvalidPosition) (.ref C_InvalidPosition) = some true
  xm_InvalidPosition_InvalidPositions : PySem.W.exmOne K (.ref C_InvalidPosition) (.ref C_InvalidPositions) = some false
  ko_InvalidPosition_InvalidPositions : PySem.W.kitOne K (.ref C_InvalidPosition) (.ref C_InvalidPositions) = some false
  xm_InvalidPosition_FixError : PySem.W.exmOne K (.ref C_InvalidPosition) (.ref C_FixError) = some true
  ko_InvalidPosition_FixError : PySem.W.kitOne K (.ref C_InvalidPosition) (.ref C_FixError) = some true
  xm_InvalidPositions_InvalidCount : PySem.W.exmOne K (.ref C_InvalidPositions) (.ref C_InvalidCount) = some false
  ko_InvalidPositions_InvalidCount : PySem.W.kitOne K (.ref C_InvalidPositions) (.ref C_InvalidCount) = some false
  xm_InvalidPositions_InvalidPosition : PySem.W.exmOne K (.ref C_InvalidPositions) (.ref C_InvalidPosition) = some false
  ko_InvalidPositions_InvalidPosition : PySem.W.kitOne K (.ref C_InvalidPositions) (.ref C_InvalidPosition) = some false
  xm_InvalidPositions_InvalidPositions : PySem.W.exmOne K (.ref C_InvalidPositions) (.ref C_InvalidPositions) = some true
  ko_InvalidPositions_InvalidPositions : PySem.W.kitOne K (.ref C_InvalidPositions) (.ref C_InvalidPositions) = some true
  xm_InvalidPositions_FixError : PySem.W.exmOne K (.ref C_InvalidPositions) (.ref C_FixError) = some true
  ko_InvalidPositions_FixError : PySem.W.kitOne K (.ref C_InvalidPositions) (.ref C_FixError) = some true
  ka_InvalidCount_0 : PySem.W.kitAny K (.ref C_InvalidCount) [.ref C_InvalidPosition, .ref C_InvalidPositions] = some false
  ka_InvalidPositions_1 : PySem.W.kitAny K (.ref C_InvalidPositions) [.ref C_InvalidPosition, .ref C_InvalidCount] = some false
  ka_Row_2 : PySem.W.kitAny K (.ref C_Row) [.type "list", .type "tuple"] = some false
  smk : Wx.SmK K
  z_isinstance : mg "isinstance" = none
  z_list : mg "list" = none
  z_tuple : mg "tuple" = none
  z_str : mg "str" = none
  z_len : mg "len" = none
  z_all : mg "all" = none
  z_enumerate : mg "enumerate" = none
  z_abs : mg "abs" = none
  z_max : mg "max" = none
  z_int : mg "int" = none
  z_divmod : mg "divmod" = none
  z_range : mg "range" = none
  z_min : mg "min" = none
  z_repr : mg "repr" = none
  z_bool : mg "bool" = none
  c_LETTERS : ∃ t, mg "LETTERS" = some (.str "abcdefghijklmnopqrstuvwxyz" t)
  c_MOST_LETTERS : ∃ t, mg "MOST_LETTERS" = some (.int 8 t)
  c_MOST_RUNS : ∃ t, mg "MOST_RUNS" = some (.int 400 t)
end Fk
set_option Elab.async false
set_option linter.all false
set_option maxRecDepth 100000
set_option maxHeartbeats 4000000
namespace Fk
open PySem L2 Fx
/-- a NAME -/
def Nm (z : Str) : Prop := 1 ≤ z.length ∧ z.length ≤ 8 ∧ ∀ c ∈ z.cps.toList, 97 ≤ c ∧ c ≤ 122
abbrev abc : Str := "abcdefghijklmnopqrstuvwxyz"
theorem abc_list : abc.cps.toList = (List.range 26).map (97 + ·) := by decide +kernel
theorem abc_mem {c : Nat} (h : 97 ≤ c) (h2 : c ≤ 122) : c ∈ abc.cps.toList := by
  rw [abc_list, List.mem_map]
  exact ⟨c - 97, List.mem_range.mpr (by omega), by omega⟩
theorem abc_at {i : Nat} (h : i < 26) : abc.cps.toList[i]? = some (97 + i) := by
  rw [abc_list, List.getElem?_map, List.getElem?_range h]; rfl
theorem len_list (z : Str) : z.length = z.cps.toList.length := (Array.length_toList).symm
theorem join_cons2 (s x y : Str) (r : List Str) : Str.join s (x :: y :: r) = x ++ s ++ Str.join s (y :: r) := rfl
theorem join_list : ∀ ws : List Str, (Str.join ("" : Str) ws).cps.toList = (ws.map (·.cps.toList)).flatten
  | [] => rfl
  | [x] => by show x.cps.toList = _; simp
  | x :: y :: r => by
    have ih := join_list (y :: r)
    rw [join_cons2]
    show ((x.cps ++ ("" : Str).cps) ++ (Str.join "" (y :: r)).cps).toList = _
    rw [Array.toList_append, Array.toList_append, ih]
    have e : ("" : Str).cps.toList = [] := by decide +kernel
    rw [e]
    simp
theorem join_ones (cs : List Nat) : (Txt.join ("" : Str) (cs.map fun c => (⟨#[c]⟩ : Str))).cps.toList = cs := by
  show (Builtin.Str.glued ("" : Str) _).cps.toList = _
  rw [StrLaws.glued_eq_join, join_list, List.map_map]
  induction cs with
  | nil => rfl
  | cons c cs ih => simpa using ih
theorem sum_ones (cs : List Nat) : ((cs.map fun c => (⟨#[c]⟩ : Str)).map (·.length)).sum = cs.length := by
  induction cs with
  | nil => rfl
  | cons c cs ih =>
    simp only [List.map_cons, List.sum_cons, List.length_cons] at ih ⊢
    rw [ih]
    show 1 + cs.length = _
    omega
theorem nm_of {cs : List Nat} {z : Str} (h : z.cps.toList = cs) (h1 : 1 ≤ cs.length) (h2 : cs.length ≤ 8) (h3 : ∀ c ∈ cs, 97 ≤ c ∧ c ≤ 122) : Nm z := by
  subst h
  exact ⟨by rw [len_list]; exact h1, by rw [len_list]; exact h2, h3⟩
theorem cutS_to (z : Str) (n : Nat) : (cutS z none (some (n : Int))).cps.toList = z.cps.toList.take n := by
  unfold cutS
  rw [HT.sIx_none, HT.sIx_nat, List.drop_zero, Nat.sub_zero, len_list]
  by_cases h : n ≤ z.cps.toList.length
  · rw [Nat.min_eq_left h]
  · rw [Nat.min_eq_right (by omega), List.take_of_length_le (Nat.le_refl _), List.take_of_length_le (by omega : z.cps.toList.length ≤ n)]
theorem app_list (x y : Str) : (x ++ y).cps.toList = x.cps.toList ++ y.cps.toList := Array.toList_append
theorem nm_near {z s : Str} {c : Nat} (hz : Nm z) (hs : s.cps.toList = [c]) (hc : 97 ≤ c ∧ c ≤ 122) : Nm (cutS z none (some 7) ++ s) := by
  have e : (cutS z none (some 7) ++ s).cps.toList = z.cps.toList.take 7 ++ [c] := by
    rw [app_list, hs]
    exact congrArg (· ++ [c]) (cutS_to z 7)
  refine nm_of e (by simp) (by simp; omega) fun d hd => ?_
  rcases List.mem_append.mp hd with h | h
  · exact hz.2.2 d (List.mem_of_mem_take h)
  · cases List.mem_singleton.mp h; exact hc
theorem nm_first {z : Str} (hz : Nm z) : Nm (cutS z none (some 1)) := by
  have hl := hz.1
  have hl' := hl
  rw [len_list] at hl'
  have e : (cutS z none (some 1)).cps.toList = z.cps.toList.take 1 := cutS_to z 1
  refine nm_of e (by simp only [List.length_take]; omega) (by simp only [List.length_take]; omega) fun d hd => hz.2.2 d (List.mem_of_mem_take hd)
theorem str_ext {a b : Str} (h : a.cps.toList = b.cps.toList) : a = b := by
  cases a; cases b
  exact congrArg Str.mk (Array.toList_inj.mp h)
/-- a longer list without repeats has an item that is not in the other one -/
theorem fresh {α : Type} [DecidableEq α] : ∀ {l m : List α}, l.Nodup → m.length < l.length → ∃ x ∈ l, x ∉ m
  | [], _, _, h => absurd h (Nat.not_lt_zero _)
  | a :: l, m, nd, h => by
    obtain ⟨na, nd⟩ := List.nodup_cons.mp nd
    by_cases ha : a ∈ m
    · obtain ⟨x, hx, hm⟩ := fresh (l := l) (m := m.erase a) nd (by rw [List.length_erase_of_mem ha]; have := List.length_pos_of_mem ha; simp at h; omega)
      refine ⟨x, List.mem_cons_of_mem _ hx, fun z => hm ?_⟩
      exact (List.mem_erase_of_ne (fun (e : x = a) => na (e ▸ hx))).mpr z
    · exact ⟨a, List.mem_cons_self, ha⟩
theorem nears_nodup (z : Str) : ((signs abc).map fun d => match d with | .str s => cutS z none (some 7) ++ s | _ => z).Nodup := by
  unfold signs
  rw [List.map_map, abc_list, List.map_map]
  rw [List.Nodup, List.pairwise_map]
  refine List.Pairwise.imp (R := fun a b => a ≠ b) (fun {a b} hab e => ?_) List.nodup_range
  have e1 := congrArg (fun s : Str => s.cps.toList) e
  have e2 : (cutS z none (some 7)).cps.toList ++ [97 + a] = (cutS z none (some 7)).cps.toList ++ [97 + b] := by
    have := e1
    simp only [Function.comp, app_list] at this
    exact this
  have e3 := List.append_cancel_left e2
  simp at e3
  exact hab e3
end Fk
set_option Elab.async false
set_option linter.all false
set_option maxRecDepth 100000
set_option maxHeartbeats 4000000
namespace Fk
open PySem L2 Fx
section
variable {P : Program} {w : World} {K : PySem.W.Frag} {mg : Str → Option Value} {base : Heap}
/-! ### the program's small defs -/
theorem ok_is_list (T : Tx K mg) : FnOk P w K mg base CX0 1 T.a_is_list T.d_is_list ["value"] (spD K (fun ds => ∃ xs, ds = [.lst xs] ∨ ds = [.tup xs]) (fun _ d => d = .bl true)) :=
  Fx.Fun.okD T.f_is_list sc_is_list (fun ds ⟨xs, q⟩ => by rcases q with q | q <;> rw [q] <;> rfl) fun cdv A outer s E ds vs B H hr hx r hp => by
    obtain ⟨xs, rfl | rfl⟩ := hp
    · obtain ⟨v, rfl, rv⟩ := rpl1 r
      exact rb_ret (en_isi2 T.z_isinstance (en_var (i := 0) rfl rv) (en_ty T.z_list bt_list) (en_ty T.z_tuple bt_tuple) (t := .type "list") rfl kit_any1) hx fun v d B' H' s q r => Ret.of s q.symm r
    · obtain ⟨v, rfl, rv⟩ := rpl1 r
      exact rb_ret (en_isi2 T.z_isinstance (en_var (i := 0) rfl rv) (en_ty T.z_list bt_list) (en_ty T.z_tuple bt_tuple) (t := .type "tuple") rfl (r := true) rfl) hx fun v d B' H' s q r => Ret.of s q.symm r
theorem cd_isiI {X : Cx} {i : Int} : CD X (.builtin "isinstance") [.int i, .ty "int"] (Eq (.bl true)) := cd_isi (t := .type "int") rfl kit_self
theorem cd_isiIB {X : Cx} {i : Int} : CD X (.builtin "isinstance") [.int i, .ty "bool"] (Eq (.bl false)) := cd_isi (t := .type "int") rfl rfl
theorem ok_is_integer (T : Tx K mg) : FnOk P w K mg base CX0 1 T.a_is_integer T.d_is_integer ["value"] (spD K (fun ds => ∃ i : Int, ds = [.int i]) (fun _ d => d = .bl true)) :=
  Fx.Fun.okD T.f_is_integer sc_is_integer (fun ds ⟨xs, q⟩ => by rw [q]; rfl) fun cdv A outer s E ds vs B H hr hx r hp => by
    obtain ⟨i, rfl⟩ := hp
    obtain ⟨v, rfl, rv⟩ := rpl1 r
    refine rb_ret (P := Eq (.bl true)) (EN.eq (en_andV (t := true) (u := true) (en_callB T.z_isinstance bt_isinstance (ea_cons (en_var (i := 0) rfl rv) (ea_cons (en_ty T.z_int bt_int) ea_nil)) fun ds q => q ▸ cd_isiI) fun _ => EN.eq (en_notV (en_callB T.z_isinstance bt_isinstance (ea_cons (en_var (i := 0) rfl rv) (ea_cons (en_ty T.z_bool bt_bool) ea_nil)) fun ds q => q ▸ cd_isiIB)) rfl) rfl) hx fun v d B' H' s q r => Ret.of s q.symm r
theorem ok_is_count (T : Tx K mg) : FnOk P w K mg base CX0 2 T.a_is_count T.d_is_count ["value"] (spD K (fun ds => ∃ i : Int, 0 ≤ i ∧ ds = [.int i]) (fun _ d => d = .bl true)) :=
  Fx.Fun.okD T.f_is_count sc_is_count (fun ds ⟨xs, _, q⟩ => by rw [q]; rfl) fun cdv A outer s E ds vs B H hr hx r hp => by
    obtain ⟨i, hi, rfl⟩ := hp
    obtain ⟨v, rfl, rv⟩ := rpl1 r
    refine rb_ret (P := Eq (.bl true)) (EN.eq (en_andV (t := true) (u := true) (EN.imp (ed_callO (ok_is_integer T) hr T.m_is_integer T.f_is_integer.kp T.b_is_integer (ea_cons (en_var (i := 0) rfl rv) ea_nil) ⟨i, rfl⟩) fun d q => q.symm) fun _ => EN.eq (ed_cmp (en_var (i := 0) rfl rv) en_int od_ge) (by rw [decide_eq_true hi])) rfl) hx fun v d B' H' s q r => Ret.of s q.symm r
theorem ok_is_name (T : Tx K mg) : FnOk P w K mg base CX0 1 T.a_is_name T.d_is_name ["value"] (spD K (fun ds => ∃ z, Nm z ∧ ds = [.str z]) (fun _ d => d = .bl true)) :=
  Fx.Fun.okD T.f_is_name sc_is_name (fun ds ⟨z, _, q⟩ => by rw [q]; rfl) fun cdv A outer s E ds vs B H hr hx r hp => by
    obtain ⟨z, hz, rfl⟩ := hp
    obtain ⟨v, rfl, rv⟩ := rpl1 r
    obtain ⟨t2, c2⟩ := T.c_MOST_LETTERS
    obtain ⟨t1, c1⟩ := T.c_LETTERS
    obtain ⟨h1, h2, h3⟩ := hz
    have hzl : z.length ≤ sizeLine := Nat.le_trans h2 (by decide)
    refine rb_ifF (ET.eq (ed_or2 (ed_not (et_valE (en_callB T.z_isinstance bt_isinstance (ea_cons (en_var (i := 0) rfl rv) (ea_cons (en_ty T.z_str bt_str) ea_nil)) fun ds q => q ▸ cd_isiS)))
      (fun _ => ed_not (et_chainI op_le op_le en_int (en_callB T.z_len bt_len (ea_cons (en_var (i := 0) rfl rv) ea_nil) fun ds q => q ▸ cd_lenS hzl) (en_gint c2)))) ?_) hx (fun B1 H1 s1 => ?_)
    · have e1 : decide ((1 : Int) ≤ (z.length : Nat)) = true := decide_eq_true (by omega)
      have e2 : decide (((z.length : Nat) : Int) ≤ 8) = true := decide_eq_true (by omega)
      simp only [e1, e2]; rfl
    · have rv1 := rv.mono s1.b
      refine rb_ret (P := Eq (.bl true)) (en_callB (PL := Eq [.lst ((signs z).map fun _ => .bl true)]) T.z_all bt_all (ea_cons (EF.shEq ?_) ea_nil) fun ds q => ?_) s1.bh fun v d B' H' s q r => Ret.step s1 (Ret.of s q.symm r)
      · refine LC.ef (lM (f := fun _ => .bl true) (j := 1) (wi_text (en_var (i := 0) rfl rv1)) (blkOk_by (N := N_is_name) (sc := defScope s_is_name) (own := [("sign", 1)]) (by decide +kernel)) (fun _ _ _ _ _ => pg_name sc_is_name.nd rfl (Or.inl rfl)) (fun _ => rfl) ?_ ?_) sc_is_name.nd
        · unfold signs
          rw [List.length_map, Array.length_toList]
          exact hzl
        · intro d hd B2 v2 e2 r2 s0 H0 C cl fp
          unfold signs at hd
          obtain ⟨c, hc, rfl⟩ := List.mem_map.mp hd
          exact EN.eq (ed_cmp (en_var (i := 1) rfl r2) (en_gstr c1) od_inC) (by rw [decide_eq_true (abc_mem (h3 c hc).1 (h3 c hc).2)])
      · subst q
        have e : (signs z).map (fun _ => D.bl true) = D.bls ((signs z).map fun _ => true) := by
          unfold D.bls
          rw [List.map_map]; rfl
        rw [e]
        have h := cd_all (X := (cxOf CX0 P w K mg base N_is_name "is_name" (defScope s_is_name) T.a_is_name cdv A outer s H E).nox) rfl (bs := (signs z).map fun _ => true)
        rwa [show ((signs z).map fun _ => true).all id = true from by simp] at h
theorem ok_few (T : Tx K mg) : FnOk P w K mg base CX0 1 T.a_want_few_runs T.d_want_few_runs ["many"] (spD K (fun ds => ∃ n : Int, n ≤ 400 ∧ ds = [.int n]) (fun _ d => d = .non)) :=
  Fx.Fun.okD T.f_want_few_runs sc_want_few_runs (fun ds ⟨z, _, q⟩ => by rw [q]; rfl) fun cdv A outer s E ds vs B H hr hx r hp => by
    obtain ⟨n, hn, rfl⟩ := hp
    obtain ⟨v, rfl, rv⟩ := rpl1 r
    obtain ⟨t1, c1⟩ := T.c_MOST_RUNS
    exact rb_ifF ((ed_tcmp (en_var (i := 0) rfl rv) (en_gint c1) od_gt).eq (decide_eq_false (by omega))) hx fun B1 H1 s1 => rb_nil (Ret.of s1 rfl (Rp.non.mpr rfl))
end
end Fk
set_option Elab.async false
set_option linter.all false
set_option maxRecDepth 100000
set_option maxHeartbeats 4000000
namespace Fk
open PySem L2 Fx
section
variable {P : Program} {w : World} {K : PySem.W.Frag} {mg : Str → Option Value} {base : Heap}
/-! ### draws -/
def preD (ds : List D) : Prop := ∃ m : Int, ds = [.pot, .int m] ∧ 0 < m ∧ m < 1000000000000000000000000000000
def postD (ds : List D) (d : D) : Prop := ∃ m r : Int, ds = [.pot, .int m] ∧ d = .int r ∧ 0 ≤ r ∧ r < m
theorem ok_draw (T : Tx K mg) : FnOk P w K mg base CX0 1 T.a_l_draw T.d_l_draw ["_law_pot_here", "_law_sides"] (spD K preD postD) :=
  Fx.Fun.okD T.f_l_draw sc_l_draw (fun ds ⟨z, q, _⟩ => by rw [q]; rfl) fun cdv A outer s E ds vs B H hr hx r hp => by
    obtain ⟨m, rfl, hm0, hm1⟩ := hp
    obtain ⟨v, u, rfl, rv, ru⟩ := rpl2 r
    simp only [Rp] at rv
    obtain ⟨q, rfl, hq⟩ := rv
    cases Rp.int.mp ru
    have hH : H q = some (potO q) := hx _ _ hq
    refine rb_open hH fun i j hi hj hj2 => rb_close ?_
    -- what is known while the pot stands open
    have fin : ∀ (r : Int) (H' : Hp), 0 ≤ r → r < m → PotAt q H' → (∀ a o, a ≠ q → H a = some o → H' a = some o) → ∃ q', PotAt q' H' ∧ Ret K B H (postD [.pot, .int m]) (.int r) (upd H' q' (potO q')) := fun r H' h0 h1 hp hk => by
      have ex : Ex H (upd H' q (potO q)) := fun a o ha => by
        by_cases z : a = q
        · subst z; rw [upd_same, ← hH]; exact ha
        · rw [upd_ne z]; exact hk a o z ha
      exact ⟨q, hp, Ret.of ⟨Ex.refl B, hx.trans ex, ex, fun _ h _ => h⟩ ⟨m, r, rfl, rfl, h0, h1⟩ (Rp.int.mpr rfl)⟩
    have bs : ∀ (i j : Int) (H' : Hp), H' q = some (.lst [.int i, .int j]) → Ex (upd (fun _ => none) q (.lst [.int i, .int j])) H' ∧ Rp K (upd (fun _ => none) q (.lst [.int i, .int j])) (.lst [.int i, .int j]) (.ref q) := fun i j H' h => by
      refine ⟨fun a o ha => ?_, Rp.lst.mpr ⟨q, _, rfl, upd_same, RpL.cons (Rp.int.mpr rfl) (RpL.cons (Rp.int.mpr rfl) RpL.nil)⟩⟩
      by_cases z : a = q
      · subst z; rw [upd_same] at ha; rw [h]; exact ha
      · rw [upd_ne z] at ha; cases ha
    obtain ⟨x0, r0⟩ := bs i j _ (upd_same (H := H))
    have hm : CDivP i m := Wx.divp_of hm0 hm1
    refine rb_if0 (t := decide (0 < i)) (ed_tcmp (ed_ix (en_var (i := 0) rfl r0) en_int (ix_lst (d := .int i) rfl)) en_int od_gt) x0 (fun ht B1 H1 s1 => ?_) (fun hf B1 H1 s1 => ?_)
    · refine rb_storeP (i := 0) (l := 2) rfl sc_l_draw.nd rfl (s1.h _ _ upd_same) (en_callB T.z_divmod bt_divmod (ea_cons (ed_ix (en_var (i := 0) rfl (r0.mono s1.b)) en_int (ix_lst (d := .int i) rfl)) (ea_cons (en_var (i := 1) rfl (Rp.int.mpr rfl)) ea_nil)) fun ds q => q ▸ Wx.cd_divmodW hm) rfl s1.bh fun v u B2 H2 s2 r1 r2 => ?_
      cases Rp.int.mp r1
      cases Rp.int.mp r2
      refine rb_ret (en_var (i := 2) rfl (Rp.int.mpr rfl)) (Ex.refl _) fun v d B3 H3 s3 q3 r3 => ?_
      subst q3
      cases Rp.int.mp r3
      refine fin _ _ (Int.emod_nonneg _ (by omega)) (Int.emod_lt_of_pos _ hm0) ⟨i / m, j, s3.h _ _ upd_same, Int.ediv_nonneg hi (by omega), hj, hj2⟩ fun a o na ha => ?_
      exact s3.h _ _ (by rw [upd_ne na]; exact s2.h _ _ (s1.h _ _ (by rw [upd_ne na]; exact ha)))
    · have c1 : CMul j 44203 := .inr ⟨by decide, by decide⟩
      refine rb_storeI (i := 0) rfl (s1.h _ _ upd_same) (ed_op (en_callTy T.z_int bt_int (ea_cons (ed_op (ed_op (ed_ix (en_var (i := 0) rfl (r0.mono s1.b)) en_int (ix_lst (d := .int j) rfl)) en_int (od_mul c1)) en_int od_add) ea_nil) fun ds q => q ▸ cd_int) en_int (od_mod (by decide))) rfl s1.bh fun v d B2 H2 s2 q2 r2 => ?_
      subst q2
      cases Rp.int.mp r2
      generalize hj3 : (j * 44203 + 12227) % 2147483587 = j3
      have b0 : 0 ≤ j3 := by rw [← hj3]; exact Int.emod_nonneg _ (by decide)
      have b1 : j3 < 2147483587 := by rw [← hj3]; exact Int.emod_lt_of_pos _ (by decide)
      obtain ⟨x3, r3⟩ := bs i j3 (upd H2 q (.lst [.int i, .int j3])) upd_same
      have c2 : CMul j3 j3 := .inl ⟨by omega, by omega⟩
      have hx3 : Ex (upd (fun _ => none) q (.lst [.int i, .int j3])) (upd H2 q (.lst ([V.int i, V.int j].set 1 (V.int j3)))) := x3
      refine rb_ret (ed_op (en_callTy T.z_int bt_int (ea_cons (ed_op (ed_op (en_callTy T.z_int bt_int (ea_cons (ed_op (ed_ix (en_var (i := 0) rfl r3) en_int (ix_lst (d := .int j3) rfl)) (ed_ix (en_var (i := 0) rfl r3) en_int (ix_lst (d := .int j3) rfl)) (od_mul c2)) ea_nil) fun ds q => q ▸ cd_int) en_int (od_mod (by decide))) en_int (od_fdiv ⟨by decide, by decide⟩)) ea_nil) fun ds q => q ▸ cd_int) (en_var (i := 1) rfl (Rp.int.mpr rfl)) (od_mod hm0)) hx3 fun v d B4 H4 s4 q4 r4 => ?_
      subst q4
      cases Rp.int.mp r4
      refine fin _ _ (Int.emod_nonneg _ (by omega)) (Int.emod_lt_of_pos _ hm0) ⟨i, j3, s4.h _ _ upd_same, hi, b0, by omega⟩ fun a o na ha => ?_
      exact s4.h _ _ (by rw [upd_ne na]; exact s2.h _ _ (s1.h _ _ (by rw [upd_ne na]; exact ha)))
end
end Fk
set_option Elab.async false
set_option linter.all false
set_option maxRecDepth 100000
set_option maxHeartbeats 4000000
namespace Fk
open PySem L2 Fx
section
variable {P : Program} {w : World} {K : PySem.W.Frag} {mg : Str → Option Value} {base : Heap}
theorem ok_pot (T : Tx K mg) : FnOk P w K mg base CX0 1 T.a_l_pot T.d_l_pot ["_law_script", "_law_k"] (spD K (fun ds => ∃ (ns : List Int) (k : Int), ds = [.scr ns, .int k] ∧ 0 ≤ k ∧ k < 64) (fun _ d => d = .pot)) :=
  Fx.Fun.okD T.f_l_pot sc_l_pot (fun ds ⟨z, k, q, _⟩ => by rw [q]; rfl) fun cdv A outer s E ds vs B H hr hx r hp => by
    obtain ⟨ns, k, rfl, hk0, hk1⟩ := hp
    obtain ⟨v, u, rfl, rv, ru⟩ := rpl2 r
    cases Rp.int.mp ru
    have ck : CMul 29 k := .inl ⟨by decide, by decide⟩
    have fin : ∀ (c : Int) (B1 H1 : Hp), 0 ≤ c → Fx.Step B H B1 H1 → RB (cxOf CX0 P w K mg base N_l_pot "_law_pot" (defScope s_l_pot) T.a_l_pot cdv A outer s H E).nox ((defBody s_l_pot).drop 2) [some v, some (.int k), some (.int c)] H1
        { nx := fun _ H' => Ret K B H (fun d => d = .pot) .non H', rt := Ret K B H (fun d => d = .pot) } := fun c B1 H1 hc s1 => by
      refine rb_close ?_
      have cp : CPow (2 * k + 3) 3 := ⟨by decide, by decide, by omega⟩
      have cp2 : CPow 10 18 := ⟨by decide, by decide, by decide⟩
      have hm : 0 ≤ c % 2147483543 ∧ c % 2147483543 < 2147483543 := ⟨Int.emod_nonneg _ (by decide), Int.emod_lt_of_pos _ (by decide)⟩
      have cm : CMul (c % 2147483543 + 7) ((2 * k + 3) ^ 3) := .inl ⟨by omega, by omega⟩
      have c2k : CMul 2 k := .inl ⟨by decide, by decide⟩
      refine rb_retF (ef_lst (PL := Eq [.int (if c - 10 ^ 18 > 0 then c - 10 ^ 18 else 0), .int ((c % 2147483543 + 7) * (2 * k + 3) ^ 3 % 2147483477 + 1)]) (ea_cons (en_callB T.z_max bt_max (ea_cons en_int (ea_cons (ed_op (en_var (i := 2) rfl (Rp.int.mpr rfl)) (ed_op en_int en_int (od_pow cp2)) od_sub) ea_nil)) fun ds q => q ▸ cd_max rfl)
        (ea_cons (ed_op (ed_op (ed_op (en_callTy T.z_int bt_int (ea_cons (ed_op (ed_op (en_callTy T.z_int bt_int (ea_cons (en_var (i := 2) rfl (Rp.int.mpr rfl)) ea_nil) fun ds q => q ▸ cd_int) en_int (od_mod (by decide))) en_int od_add) ea_nil) fun ds q => q ▸ cd_int)
          (ed_op (ed_op (ed_op en_int (en_var (i := 1) rfl (Rp.int.mpr rfl)) (od_mul c2k)) en_int od_add) en_int (od_pow cp)) (od_mul cm)) en_int (od_mod (by decide))) en_int od_add) ea_nil)) (fun ds q => by subst q; exact (by decide : 2 ≤ sizeLine))) s1.bh fun p ds vs B2 H2 s2 n1 n2 h2 q r2 => ?_
      subst q
      obtain ⟨v1, v2, rfl, q1, q2⟩ := rpl2 r2
      cases Rp.int.mp q1
      cases Rp.int.mp q2
      have hb : 0 ≤ (c % 2147483543 + 7) * (2 * k + 3) ^ 3 % 2147483477 ∧ (c % 2147483543 + 7) * (2 * k + 3) ^ 3 % 2147483477 < 2147483477 := ⟨Int.emod_nonneg _ (by decide), Int.emod_lt_of_pos _ (by decide)⟩
      refine ⟨p, ⟨_, _, h2, by split <;> omega, by omega, by omega⟩, ?_⟩
      exact Ret.step s1 (Ret.of (s2.recast n1 n2) rfl (by simp only [Rp]; exact ⟨p, rfl, upd_same⟩))
    refine rb_set (i := 2) sc_l_pot.nd (ed_op (ed_op en_int (en_var (i := 1) rfl (Rp.int.mpr rfl)) (od_mul ck)) en_int od_add) hx fun v1 d1 B1 H1 s1 q1 r1 => ?_
    subst q1
    cases Rp.int.mp r1
    have rv1 := rv.mono s1.b
    refine rb_if0 (t := decide (k < ns.length)) (ed_tcmp (en_var (i := 1) rfl (Rp.int.mpr rfl)) (en_callB T.z_len bt_len (ea_cons (en_var (i := 0) rfl rv1) ea_nil) fun ds q => q ▸ cd_lenSc) od_lt) s1.bh (fun ht B2 H2 s2 => ?_) (fun _ B2 H2 s2 => ?_)
    · have hk : k.toNat < ns.length := by have := of_decide_eq_true ht; omega
      have ei : L2.atI ns k = some ns[k.toNat] := by
        have := Fx.atI_nat (List.getElem?_eq_getElem hk)
        rwa [show ((k.toNat : Nat) : Int) = k from by omega] at this
      refine rb_set (i := 2) sc_l_pot.nd (en_callB T.z_abs bt_abs (ea_cons (ed_ix (en_var (i := 0) rfl (rv1.mono s2.b)) (en_var (i := 1) rfl (Rp.int.mpr rfl)) (ix_scr ei)) ea_nil) fun ds q => q ▸ cd_abs) s2.bh fun v3 d3 B3 H3 s3 q3 r3 => rb_nil ?_
      subst q3
      cases Rp.int.mp r3
      exact fin _ B3 H3 (by split <;> omega) ((s1.trans s2).trans s3)
    · exact fin _ B2 H2 (by omega) (s1.trans s2)
/-- some item -/
theorem ok_pick (T : Tx K mg) : FnOk P w K mg base CX0 2 T.a_l_pick T.d_l_pick ["_law_pot_here", "_law_some"] (spD K (fun ds => ∃ xs : List D, ds = [.pot, .lst xs] ∧ xs ≠ [] ∧ xs.length < 2 ^ 20) (fun ds d => ∃ xs : List D, ds = [.pot, .lst xs] ∧ d ∈ xs)) :=
  Fx.Fun.okD T.f_l_pick sc_l_pick (fun ds ⟨z, q, _⟩ => by rw [q]; rfl) fun cdv A outer s E ds vs B H hr hx r hp => by
    obtain ⟨xs, rfl, hne, hlen⟩ := hp
    obtain ⟨v, u, rfl, rv, ru⟩ := rpl2 r
    have hpos : 0 < xs.length := List.length_pos_iff.mpr hne
    refine rb_ret (P := fun d => d ∈ xs) (en_ix (Pa := Eq (.lst xs)) (Pb := fun d => ∃ ds, Eq [.pot, .int (xs.length : Nat)] ds ∧ postD ds d) (en_var (i := 1) rfl ru) (en_callO (ok_draw T) hr T.m_l_draw T.f_l_draw.kp T.b_l_draw (ea_cons (en_var (i := 0) rfl rv) (ea_cons (en_callB T.z_len bt_len (ea_cons (en_var (i := 1) rfl ru) ea_nil) fun ds q => q ▸ cd_lenL) ea_nil)) fun ds q => q ▸ ⟨_, rfl, by omega, by omega⟩)
      fun x y px py => ?_) hx fun v d B' H' s q r => Ret.of s ⟨xs, rfl, q⟩ r
    subst px
    obtain ⟨ds, rfl, m, i, q, rfl, h0, h1⟩ := py
    injection q with _ q
    injection q with q _
    injection q with q
    subst q
    exact ix_lstM h0 h1
end
end Fk
set_option Elab.async false
set_option linter.all false
set_option maxRecDepth 100000
set_option maxHeartbeats 4000000
namespace Fk
open PySem L2 Fx
/-- a drawn number below m -/
def Dr (m : Int) (d : D) : Prop := ∃ r : Int, d = .int r ∧ 0 ≤ r ∧ r < m
theorem en_draw {X : Cx} {f : Addr} {fd : FuncData} {a b : Expr} {p pos : Pos} {σ : L2.St} {B : Hp} {m : Int} (F : FnOk X.prog X.w X.K X.mg X.base CX0 1 f fd ["_law_pot_here", "_law_sides"] (spD X.K preD postD)) (hr : Room 1 X.A) (hm : X.mg "_law_draw" = some (.ref f)) (hk : PySem.W.keepIn X.K (.ref f) = true) (hb : Binds X.K fd ["_law_pot_here", "_law_sides"] [])
    (ha : EN X a σ B (Eq .pot)) (hb2 : EN X b σ B (Eq (.int m))) (h0 : 0 < m) (h1 : m < 1000000000000000000000000000000) (hg : Gl X "_law_draw" := by rfl) (he : starEach [a, b] X.env = (false, eval a X.env) :: starEach [b] X.env := by rfl) (he2 : starEach [b] X.env = (false, eval b X.env) :: starEach [] X.env := by rfl) (hpl : (backTo pos (starEach [b] X.env)).any (·.1) = false := by rfl) :
    EN X (.Call (.Name "_law_draw" p) [a, b] [] pos) σ B (Dr m) :=
  EN.imp (ed_callO (pos := pos) F hr hm hk hb (ea_cons ha (ea_cons hb2 ea_nil he2) he) ⟨m, rfl, h0, h1⟩ hg (by decide) he hpl) fun d ⟨m', r, q, e, h2, h3⟩ => by
    injection q with _ q
    injection q with q _
    injection q with q
    subst q
    exact ⟨r, e, h2, h3⟩
section
variable {P : Program} {w : World} {K : PySem.W.Frag} {mg : Str → Option Value} {base : Heap}
abbrev near (z : Str) (d : D) : Str := match d with | .str s => cutS z none (some 7) ++ s | _ => z
theorem ok_labels (T : Tx K mg) : FnOk P w K mg base CX0 2 T.a_l_labels T.d_l_labels ["_law_pot_here", "_law_size"] (spD K (fun ds => ∃ n : Nat, ds = [.pot, .int n] ∧ n ≤ 9) (fun ds d => ∃ ws : List Str, d = .lst (D.strs ws) ∧ ds = [.pot, .int ws.length] ∧ (∀ z ∈ ws, Nm z) ∧ ws.Nodup)) :=
  Fx.Fun.okD T.f_l_labels sc_l_labels (fun ds ⟨z, q, _⟩ => by rw [q]; rfl) fun cdv A outer s E ds vs B H hr hx r hp => by
    obtain ⟨n, rfl, hn⟩ := hp
    obtain ⟨v, u, rfl, rv, ru⟩ := rpl2 r
    cases Rp.int.mp ru
    have hr1 : Room 1 _ := hr
    refine rb_asg2F (PL := Eq []) (i := 2) (j := 3) rfl sc_l_labels.nd (ef_lst ea_nil (fun ds q => by subst q; exact Nat.zero_le _)) en_str hx fun p ds vs w0 d B1 H1 s1 n0 n1 h1 pl r1 pd rd => ?_
    subst pl; subst pd
    cases Rp.str.mp rd
    simp only [RpL] at r1
    subst r1
    have rp1 := rv.mono s1.b
    refine rb_for (g := gName 4) (set := set1 4) (parts := fun d => some [d]) PassesOwn.never rfl (wi_rangeE (en_var (i := 1) rfl (Rp.int.mpr rfl)) ⟨by omega, by omega⟩ T.z_range) (pg_name sc_l_labels.nd rfl (Or.inl rfl)) (gt_name 4) s1.bh fun ds B2 H2 s2 hds => ?_
    subst hds
    have st2 := s1.trans s2
    have kp := s2.keep n1 h1
    have rp := rv.mono st2.b
    refine ⟨fun i σ1 B3 H3 => ∃ (ws : List Str) (a4 a5 a6 : Option V), B3 = B2 ∧ Ex B2 H3 ∧ Ex H H3 ∧ H3 p = some (.lst (ws.map V.str)) ∧ ws.length = i ∧ (∀ z ∈ ws, Nm z) ∧ ws.Nodup ∧
      σ1 = [some v, some (.int (n : Int)), some (.ref p), some (.str abc), a4, a5, a6, none, none, none], ⟨[], none, none, none, rfl, s2.bh, st2.h, kp.2, rfl, (fun _ h => nomatch h), List.nodup_nil, rfl⟩,
      (fun i σ1 B3 H3 ⟨ws, a4, a5, a6, e, x, _⟩ => by subst e; exact ⟨Ex.refl _, x⟩), ?_, ?_⟩
    · rintro i d σ1 B3 H3 hd ⟨ws, a4, a5, a6, rfl, x1, x2, hp3, hl, hnm, hnd, rfl⟩
      have hi : i < n := by
        have := (List.getElem?_eq_some_iff.mp hd).1
        rw [upTo_length] at this
        omega
      refine ⟨[d], rfl, fun B4 H4 us s4 rus => ?_⟩
      obtain ⟨kv, rfl, rk⟩ := rpl1 rus
      have y1 : Ex B3 H4 := s4.b.trans s4.bh
      have y2 : Ex H H4 := x2.trans s4.h
      have hp4 := s4.h _ _ hp3
      -- label = ''.join([...])
      refine rb_set (i := 5) (P := fun d => ∃ z, d = .str z ∧ Nm z) sc_l_labels.nd (en_bm (dx := .str "") (PL := fun l => ∃ cs : List Nat, l = [.lst (D.strs (cs.map fun c => (⟨#[c]⟩ : Str)))] ∧ 1 ≤ cs.length ∧ cs.length ≤ 8 ∧ ∀ c ∈ cs, 97 ≤ c ∧ c ≤ 122) rfl PySem.F.plainAttrs_str PySem.F.slot_str_join PySem.F.type_str_join en_str
        (EA.imp (ea_consN (P := fun d => ∃ cs : List Nat, d = .lst (D.strs (cs.map fun c => (⟨#[c]⟩ : Str))) ∧ 1 ≤ cs.length ∧ cs.length ≤ 8 ∧ ∀ c ∈ cs, 97 ≤ c ∧ c ≤ 122) (EN.imp (EF.sh (PL := fun es => ∃ cs : List Nat, es = D.strs (cs.map fun c => (⟨#[c]⟩ : Str)) ∧ 1 ≤ cs.length ∧ cs.length ≤ 8 ∧ ∀ c ∈ cs, 97 ≤ c ∧ c ≤ 122) ?_) ?_) ea_nil) ?_) ?_) y1 fun v5 d5 B5 H5 s5 q5 r5 => ?_
      · refine LC.ef (LC.imp (lN (Pds := fun ds => ∃ k : Int, (1 ≤ k ∧ k ≤ 8) ∧ ds = Fx.upTo k.toNat) (Pe := fun _ _ e => ∃ c, e = .str ⟨#[c]⟩ ∧ 97 ≤ c ∧ c ≤ 122) (j := 7) (wi_range (Pn := fun k => 1 ≤ k ∧ k ≤ 8)
          (en_op (Pa := Eq (.int 1)) (Pb := Dr 8) en_int (en_draw (ok_draw T) hr1 T.m_l_draw T.f_l_draw.kp T.b_l_draw (en_var (i := 0) rfl rp) en_int (by decide) (by decide)) ?_) (fun k hk => ⟨by omega, by omega⟩) T.z_range)
          (blkOk_by (N := N_l_labels) (sc := defScope s_l_labels) (own := [("_law_turn", 7)]) (by decide +kernel)) (fun _ _ _ _ _ => pg_name sc_l_labels.nd rfl (Or.inl rfl)) (fun _ => rfl) ?_ ?_) ?_) sc_l_labels.nd
        · rintro x y rfl ⟨k, rfl, h0, h8⟩
          exact OD.imp od_add fun d q => ⟨_, q.symm, by omega, by omega⟩
        · rintro ds ⟨k, ⟨h0, h8⟩, rfl⟩
          rw [upTo_length]
          exact Nat.le_trans (by omega : k.toNat ≤ 8) (by decide)
        · intro ds _ i d _ B6 v6 x6 r6 s0 H0 C cl fp
          refine en_ix (Pa := Eq (.str abc)) (Pb := Dr 26) (en_var (i := 3) rfl (Rp.str.mpr rfl)) (en_draw (ok_draw T) hr1 T.m_l_draw T.f_l_draw.kp T.b_l_draw (en_var (i := 0) rfl (rp.mono x6)) en_int (by decide) (by decide)) ?_
          rintro x y rfl ⟨k, rfl, h0, h26⟩
          refine ix_textM (by decide) h0 (by rw [show (abc.length : Int) = 26 from by decide +kernel]; exact h26) fun c hc => ?_
          rw [abc_list] at hc
          obtain ⟨j, hj, rfl⟩ := List.mem_map.mp hc
          have := List.mem_range.mp hj
          omega
        · rintro es ⟨ds, ⟨k, ⟨h0, h8⟩, rfl⟩, hlen, hall⟩
          rw [upTo_length] at hlen
          obtain ⟨cs, rfl, hcs⟩ := choose_map (g := fun c => D.str ⟨#[c]⟩) (Q := fun c => 97 ≤ c ∧ c ≤ 122) (es := es) (all_of (by rw [upTo_length]; exact hlen) hall)
          rw [List.length_map] at hlen
          exact ⟨cs, by unfold D.strs; rw [List.map_map]; rfl, by omega, by omega, hcs⟩
      · rintro d ⟨es, rfl, cs, rfl, h⟩
        exact ⟨cs, rfl, h⟩
      · rintro l ⟨d, t, rfl, ⟨cs, rfl, h⟩, rfl⟩
        exact ⟨cs, rfl, h⟩
      · rintro l ⟨cs, rfl, h1, h8, hcs⟩
        obtain ⟨r0, hr0, k0⟩ := md_join (X := (cxOf CX0 P w K mg base N_l_labels "_law_labels" (defScope s_l_labels) T.a_l_labels cdv A outer s H E).nox) (z := "") (ws := cs.map fun c => (⟨#[c]⟩ : Str)) (by rw [sum_ones, List.length_map]; show cs.length + cs.length * 0 ≤ _; omega)
        exact ⟨r0, hr0, fun v vs B H Q x rx ry kk => k0 v vs B H Q x rx ry fun z d B' H' s q rz => kk z d B' H' s ⟨_, q.symm, nm_of (join_ones cs) h1 h8 hcs⟩ rz⟩
      -- spare
      obtain ⟨z, rfl, hz⟩ := q5
      cases Rp.str.mp r5
      have hzl : z.length ≤ sizeLine := Nat.le_trans hz.2.1 (by decide)
      have w1 : Ex B3 H5 := s5.b.trans s5.bh
      have e26 : (signs abc).length = 26 := by decide +kernel
      refine rb_set (i := 6) (P := Eq (.lst (D.strs (z :: (signs abc).map (near z))))) sc_l_labels.nd (EF.shEq (EF.imp (PL := Eq ([D.str z] ++ D.strs ((signs abc).map (near z)))) (ef_op (Pa := Eq (.lst [.str z])) (Pb := Eq (.lst (D.strs ((signs abc).map (near z))))) (en_lst (ea_cons (en_var (i := 5) rfl (Rp.str.mpr rfl)) ea_nil) (by exact (by decide : 1 ≤ sizeLine))) (EF.shEq (EF.imp (LC.ef (lM (j := 8) (f := fun d => .str (near z d)) (wi_text (z := abc) (en_var (i := 3) rfl (Rp.str.mpr rfl)))
          (blkOk_by (N := N_l_labels) (sc := defScope s_l_labels) (own := [("_law_sign", 8)]) (by decide +kernel)) (fun _ _ _ _ _ => pg_name sc_l_labels.nd rfl (Or.inl rfl)) (fun _ => rfl) ?_ ?_) sc_l_labels.nd) ?_)) ?_) ?_)) w1 fun v6 d6 B6 H6 s6 q6 r6 => ?_
      · rw [e26]; decide
      · intro d hd B6 v6 x6 r6 s0 H0 C cl fp
        unfold signs at hd
        obtain ⟨c, hc, rfl⟩ := List.mem_map.mp hd
        refine ed_op (en_slS (en_var (i := 5) rfl (Rp.str.mpr rfl)) eo_none (eo_some en_int) hzl) (en_var (i := 8) rfl r6) (od_addS ?_)
        have : (cutS z none (some 7)).length ≤ z.length := cutS_length z none (some 7)
        have h1 : (⟨#[c]⟩ : Str).length = 1 := rfl
        have h2 := hz.2.1
        exact Nat.le_trans (by omega : _ ≤ 9) (by decide)
      · intro es q
        rw [← q]
        unfold D.strs
        rw [List.map_map]; rfl
      · rintro x y rfl rfl
        exact odf_cat (by simp only [D.strs, List.length_map, e26]; exact (by decide : 1 + 26 ≤ sizeLine))
      · intro es q
        rw [← q]; rfl
      -- found.append([..][0])
      have spd : Rp K B6 (.lst (D.strs (z :: (signs abc).map (near z)))) v6 := q6 ▸ r6
      have hp6 := s6.h _ _ (s5.h _ _ hp4)
      have bp : B6 p = none := s6.nw p kp.1 (by rw [s5.h _ _ hp4]; exact fun z => nomatch z)
      have spd2 := spd.mono (Ex.new (o := .lst (ws.map V.str)) bp)
      have xc : Ex (upd B6 p (.lst (ws.map V.str))) H6 := s6.bh.upd_left hp6
      have fd2 : Rp K (upd B6 p (.lst (ws.map V.str))) (.lst (D.strs ws)) (.ref p) := Rp.lst.mpr ⟨p, _, rfl, upd_same, RpL.strs.mpr rfl⟩
      have hex : ∃ z' ∈ z :: (signs abc).map (near z), z' ∉ ws := by
        obtain ⟨z', h1, h2⟩ := fresh (nears_nodup z) (m := ws) (by rw [List.length_map, e26]; omega)
        exact ⟨z', List.mem_cons_of_mem _ h1, h2⟩
      have hnear : ∀ z' ∈ z :: (signs abc).map (near z), Nm z' := fun z' hz' => by
        rcases List.mem_cons.mp hz' with h | h
        · rw [h]; exact hz
        · obtain ⟨d, hd, rfl⟩ := List.mem_map.mp h
          unfold signs at hd
          obtain ⟨c, hc, rfl⟩ := List.mem_map.mp hd
          rw [abc_list] at hc
          obtain ⟨j, hj, rfl⟩ := List.mem_map.mp hc
          have := List.mem_range.mp hj
          exact nm_near hz (c := 97 + j) rfl (by omega)
      refine rb_appendX (i := 2) (q := p) (vs := ws.map V.str) (P := fun d => ∃ z', d = .str z' ∧ Nm z' ∧ z' ∉ ws) rfl hp6 (by rw [List.length_map]; exact Nat.lt_of_lt_of_le (by omega : ws.length < 9) (by decide)) (EN.imp (ed_ix (EF.shEq (LC.ef (lT (j := 9) (f := fun d => d) (t := fun d => match d with | .str s => !decide (s ∈ ws) | _ => false) (wi_lstE (en_var (i := 6) rfl spd2))
          (blkOk_by (N := N_l_labels) (sc := defScope s_l_labels) (own := [("_law_near", 9)]) (by decide +kernel)) (fun _ _ _ _ _ => pg_name sc_l_labels.nd rfl (Or.inl rfl)) (fun _ => rfl) ?_ ?_ ?_) sc_l_labels.nd)) en_int (ix_lstM (Int.le_refl 0) ?_)) ?_) xc fun v7 d7 B7 H7 s7 q7 r7 => rb_nil ?_
      · simp only [D.strs, List.map_cons, List.length_cons, List.length_map, e26]; decide
      · intro d hd B8 v8 x8 r8 s0 H0 C cl fp
        obtain ⟨z', hz', rfl⟩ := List.mem_map.mp hd
        exact ed_tcmp (en_var (i := 9) rfl r8) (en_var (i := 2) rfl (fd2.mono x8)) od_niLs
      · intro d hd ht B8 v8 x8 r8 s0 H0 C cl fp
        exact en_var (i := 9) rfl r8
      · obtain ⟨z', h1, h2⟩ := hex
        have : D.str z' ∈ ((D.strs (z :: (signs abc).map (near z))).filter (fun d => match d with | .str s => !decide (s ∈ ws) | _ => false)).map fun d => d := by
          rw [List.map_id']
          exact List.mem_filter.mpr ⟨List.mem_map.mpr ⟨z', h1, rfl⟩, by simp [h2]⟩
        have := List.length_pos_of_mem this
        omega
      · intro d hd
        rw [List.map_id'] at hd
        obtain ⟨h1, h2⟩ := List.mem_filter.mp hd
        obtain ⟨z', h3, rfl⟩ := List.mem_map.mp h1
        exact ⟨z', rfl, hnear z' h3, by simpa using h2⟩
      · obtain ⟨z', rfl, h1, h2⟩ := q7
        cases Rp.str.mp r7
        refine ⟨B3, ws ++ [z'], _, _, _, rfl, ((w1.trans s6.h).trans s7.h).wr kp.1, ((((y2.trans s5.h).trans s6.h).trans s7.h)).wr n0, by rw [upd_same, List.map_append]; rfl, by rw [List.length_append, hl]; rfl, fun y hy => ?_, ?_, rfl⟩
        · rcases List.mem_append.mp hy with h | h
          · exact hnm y h
          · cases List.mem_singleton.mp h; exact h1
        · exact List.nodup_append.mpr ⟨hnd, List.pairwise_singleton _ z', fun a ha b hb e => h2 (by cases List.mem_singleton.mp hb; exact e ▸ ha)⟩
    · rintro σ1 B3 H3 ⟨ws, a4, a5, a6, rfl, x1, x2, hp3, hl, hnm, hnd, rfl⟩
      rw [upTo_length] at hl
      refine rb_ret (P := Eq (.lst (D.strs ws))) (en_var (i := 2) (B := upd B3 p (.lst (ws.map V.str))) rfl (Rp.lst.mpr ⟨p, _, rfl, upd_same, RpL.strs.mpr rfl⟩)) (x1.upd_left hp3) fun v4 d4 B4 H4 s4 q4 r4 => ?_
      exact Ret.of ((Fx.Step.share (Fx.Step.grow st2 x1 x2) n0 kp.1 hp3).trans s4) ⟨ws, q4.symm, by rw [hl]; rfl, hnm, hnd⟩ r4
end
end Fk
set_option Elab.async false
set_option linter.all false
set_option maxRecDepth 100000
set_option maxHeartbeats 4000000
namespace Fk
open PySem L2 Fx PySem.Spec PyProof.Rows
/-! ### how long a list's text is -/
theorem sum_le {b : Nat} : ∀ {l : List Str}, (∀ x ∈ l, x.length ≤ b) → (l.map (·.length)).sum ≤ b * l.length
  | [], _ => by simp
  | x :: l, h => by
    have h1 := h x List.mem_cons_self
    have h2 := sum_le (l := l) fun y hy => h y (List.mem_cons_of_mem _ hy)
    simp only [List.map_cons, List.sum_cons, List.length_cons, Nat.mul_add, Nat.mul_one]
    omega
theorem shownAll_map : ∀ ds : List PyData, PyData.shownAll ds = ds.map PyData.shown
  | [] => rfl
  | d :: ds => by rw [PyData.shownAll, shownAll_map ds]; rfl
theorem textFrom_le {b : Nat} : ∀ (ts : List Str) (k : Nat) (acc : Str), (∀ t ∈ ts, t.length ≤ b) → (textFrom k acc ts).length ≤ acc.length + (b + 2) * ts.length
  | [], _, acc, _ => by show acc.length ≤ _; omega
  | t :: ts, k, acc, h => by
    have ih := textFrom_le ts (k + 1) (acc ++ (if k > 0 then ", " else "" : String) ++ t) fun y hy => h y (List.mem_cons_of_mem _ hy)
    have h1 := h t List.mem_cons_self
    have e : (acc ++ (if k > 0 then ", " else "" : String) ++ t : Str).length ≤ acc.length + 2 + t.length := by
      have e2 : (", " : Str).length = 2 := by decide +kernel
      have e3 : ("" : Str).length = 0 := by decide +kernel
      rw [Str.length_append, Str.length_append]
      split
      · rw [e2]; omega
      · rw [e3]; omega
    rw [textFrom, List.length_cons, Nat.mul_add, Nat.mul_one]
    omega
theorem shown_list_len {b : Nat} {ds : List PyData} (h : ∀ d ∈ ds, d.shown.length ≤ b) : (PyData.list ds).shown.length ≤ (b + 2) * ds.length + 2 := by
  rw [PyData.shown, shownAll_map]
  unfold listText
  have h1 := textFrom_le (b := b) (ds.map PyData.shown) 0 "[" fun x hx => by
    obtain ⟨d, hd, rfl⟩ := List.mem_map.mp hx
    exact h d hd
  have e3 : ("[" : Str).length = 1 := by decide +kernel
  have e4 : ("]" : Str).length = 1 := by decide +kernel
  rw [List.length_map, e3] at h1
  rw [Str.length_append, e4]
  omega
theorem nm_shown {z : Str} (h : Nm z) : (PyData.str z).shown.length ≤ 82 := by
  rw [PyData.shown]
  have := StrLaws.reprText_len z fun c hc => by have := (h.2.2 c hc).2; omega
  have := h.2.1
  omega
theorem names_shown {ws : List Str} (h : ∀ z ∈ ws, Nm z) : (PyData.list (ws.map PyData.str)).shown.length ≤ 84 * ws.length + 2 := by
  have := shown_list_len (b := 82) (ds := ws.map PyData.str) fun d hd => by
    obtain ⟨z, hz, rfl⟩ := List.mem_map.mp hd
    exact nm_shown (h z hz)
  rwa [List.length_map] at this
theorem bools_shown (bs : List Bool) : (PyData.list (bs.map PyData.bool)).shown.length ≤ 7 * bs.length + 2 := by
  have := shown_list_len (b := 5) (ds := bs.map PyData.bool) fun d hd => by
    obtain ⟨z, hz, rfl⟩ := List.mem_map.mp hd
    rw [PyData.shown]
    cases z <;> decide +kernel
  rwa [List.length_map] at this
theorem showable_strs : ∀ ws : List Str, PyData.showableAll (ws.map PyData.str) = true
  | [] => by simp [PyData.showableAll]
  | w :: ws => by simp [PyData.showableAll, PyData.showable, showable_strs ws]
theorem showable_bls : ∀ ws : List Bool, PyData.showableAll (ws.map PyData.bool) = true
  | [] => by simp [PyData.showableAll]
  | w :: ws => by simp [PyData.showableAll, PyData.showable, showable_bls ws]
theorem depthAll_bls : ∀ ws : List Bool, PyData.depthAll (ws.map PyData.bool) ≤ 1
  | [] => by simp [PyData.depthAll]
  | w :: ws => by
    have h := depthAll_bls ws
    simp [PyData.depthAll, PyData.depth]
    omega
theorem pys_bls : ∀ ws : List Bool, D.pys (D.bls ws) = ws.map PyData.bool
  | [] => by simp only [D.bls, List.map_nil, D.pys]
  | w :: ws => by
    have ih := pys_bls ws
    simp only [D.bls, List.map_cons, D.pys, D.py] at ih ⊢
    rw [ih]
theorem plains_bls : ∀ ws : List Bool, D.plains (D.bls ws) = true
  | [] => by simp only [D.bls, List.map_nil, D.plains]
  | w :: ws => by
    have ih := plains_bls ws
    simp only [D.bls, List.map_cons, D.plains, D.plain] at ih ⊢
    rw [ih]; rfl
theorem py_strs (ws : List Str) : (D.lst (D.strs ws)).py = .list (ws.map PyData.str) := by simp only [D.py, pys_strs]
theorem py_bls (ws : List Bool) : (D.lst (D.bls ws)).py = .list (ws.map PyData.bool) := by simp only [D.py, pys_bls]
section
variable {X : Cx}
/-- repr of a list of names, of bools -/
def shN (ws : List Str) : Str := (PyData.list (ws.map PyData.str)).shown
theorem cd_reprN {ws : List Str} (hG : X.A.guards = some []) (hu : X.A.units + 66 < cLine) (h : ∀ z ∈ ws, Nm z) (hl : ws.length ≤ 400) : CD X (.builtin "repr") [.lst (D.strs ws)] (Eq (.str (shN ws))) := by
  have := cd_repr (X := X) (d := .lst (D.strs ws)) hG hu (by simp only [D.plain, plains_strs]) (by rw [py_strs, PyData.showable]; exact showable_strs ws) (by rw [py_strs, PyData.depth]; have := depthAll_strs ws; omega)
    (by rw [py_strs]; exact Nat.le_trans (names_shown h) (Nat.le_trans (by omega : 84 * ws.length + 2 ≤ 40000) (by decide)))
  rwa [py_strs] at this
def shB (bs : List Bool) : Str := (PyData.list (bs.map PyData.bool)).shown
theorem cd_reprB {bs : List Bool} (hG : X.A.guards = some []) (hu : X.A.units + 66 < cLine) (hl : bs.length ≤ 400) : CD X (.builtin "repr") [.lst (D.bls bs)] (Eq (.str (shB bs))) := by
  have := cd_repr (X := X) (d := .lst (D.bls bs)) hG hu (by simp only [D.plain, plains_bls]) (by rw [py_bls, PyData.showable]; exact showable_bls bs) (by rw [py_bls, PyData.depth]; have := depthAll_bls bs; omega)
    (by rw [py_bls]; exact Nat.le_trans (bools_shown bs) (Nat.le_trans (by omega : 7 * bs.length + 2 ≤ 40000) (by decide)))
  rwa [py_bls] at this
/-! ### a Row -/
def rowF (ws : List Str) : List (Str × D) := [("own_names", .tup (D.strs ws))]
abbrev rowD (C : Addr) (ws : List Str) : D := .obj C (rowF ws)
theorem row_look (ws : List Str) : (rowF ws).lookup ("own_names" : Str) = some (.tup (D.strs ws)) := by
  unfold rowF
  rw [List.lookup_cons_self]
theorem row_none {n : Str} (ws : List Str) (h : (n == ("own_names" : Str)) = false) : (rowF ws).lookup n = none := by
  unfold rowF
  rw [List.lookup_cons, h]; rfl
end
end Fk
set_option Elab.async false
set_option linter.all false
set_option maxRecDepth 100000
set_option maxHeartbeats 4000000
namespace Fk
open PySem L2 Fx
def unS : D → Str
  | .str s => s | _ => ""
def unR : D → List Str
  | .obj _ [(_, .tup xs)] => xs.map unS
  | .lst xs => xs.map unS
  | .tup xs => xs.map unS
  | _ => []
theorem unS_map (ws : List Str) : (D.strs ws).map unS = ws := by
  unfold D.strs
  rw [List.map_map]
  exact List.map_id' ws
theorem unR_row {C : Addr} (ws : List Str) : unR (rowD C ws) = ws := unS_map ws
theorem row_inj {C : Addr} {a b : List Str} (h : rowD C a = rowD C b) : a = b := by
  have e := congrArg unR h
  rwa [unR_row, unR_row] at e
section
variable {P : Program} {w : World} {K : PySem.W.Frag} {mg : Str → Option Value} {base : Heap}
def preR (ds : List D) : Prop := ∃ ws : List Str, (ds = [.lst (D.strs ws)] ∨ ds = [.tup (D.strs ws)]) ∧ (∀ z ∈ ws, Nm z) ∧ ws.length ≤ 400
def fsR (ds : List D) : List (Str × D) := match ds with
  | [.lst xs] => [("own_names", .tup xs)]
  | [.tup xs] => [("own_names", .tup xs)]
  | _ => []
theorem ok_init (T : Tx K mg) : FnOk P w K mg base CX0 2 T.a_Row_init T.d_Row_init ["self", "names"] (spMake K T.C_Row preR fsR) :=
  T.f_Row_init.okB sc_Row_init (fun vs H Q E ⟨x, dx, us, ds, B, q, _, _, _, r, ⟨ws, e, _⟩, _⟩ => by
    subst q
    rw [List.length_cons, ← r.length]
    rcases e with rfl | rfl <;> rfl) fun cdv A outer s H vs Q E hr ⟨x, dx, us, ds, B, q, hX, hx, hB, r, ⟨ws, e, hws, hl⟩, kk⟩ => by
    subst q
    have hr1 : Room 1 _ := hr
    have llen : (D.strs ws).length = ws.length := List.length_map _
    -- the two kinds alike: what names is, how it is walked, its length, its tuple
    obtain ⟨nv, rfl, d0, rn, hd0, hds⟩ : ∃ nv, us = [nv] ∧ ∃ d0, Rp K B d0 nv ∧ (d0 = .lst (D.strs ws) ∨ d0 = .tup (D.strs ws)) ∧ ds = [d0] := by
      rcases e with rfl | rfl
      · obtain ⟨nv, rfl, rn⟩ := rpl1 r; exact ⟨nv, rfl, _, rn, .inl rfl, rfl⟩
      · obtain ⟨nv, rfl, rn⟩ := rpl1 r; exact ⟨nv, rfl, _, rn, .inr rfl, rfl⟩
    subst hds
    have hlen : ∀ {X : Cx}, CD X (.builtin "len") [d0] (Eq (.int (ws.length : Nat))) := fun {X} => by
      rcases hd0 with rfl | rfl
      · have := cd_lenL (X := X) (ds := D.strs ws); rwa [llen] at this
      · have := cd_lenT (X := X) (ds := D.strs ws); rwa [llen] at this
    have htup : ∀ {X : Cx}, CD X (.type "tuple") [d0] (Eq (.tup (D.strs ws))) := fun {X} => by
      rcases hd0 with rfl | rfl
      · exact cd_tupL
      · exact cd_tupT
    refine rb_ifF (ET.eq (ed_not (et_valE (EN.imp (ed_callO (ok_is_list T) hr1 T.m_is_list T.f_is_list.kp T.b_is_list (ea_cons (en_var (i := 1) rfl rn) ea_nil) ⟨D.strs ws, by rcases hd0 with rfl | rfl; exact .inl rfl; exact .inr rfl⟩) fun d q => q.symm))) rfl) hx fun B1 H1 s1 => ?_
    have walk : ∀ {B1 : Hp} {tg1 tg2 : Expr} {kk0 : Nat} {tp p1 p2 p3 : Pos}, Ex B B1 → WI (cxOf CX0 P w K mg base N_Row_init "Row.__init__" (defScope s_Row_init) T.a_Row_init cdv A outer s H E).nox (.Tuple [tg1, tg2] kk0 tp) (.Call (.Name "enumerate" p1) [.Name "names" p2] [] p3) [some (.ref x), some nv, none, none] B1 (Eq (enumD (D.strs ws))) := fun x1 => by
      rcases hd0 with rfl | rfl
      · exact wi_enum (en_var (i := 1) rfl (rn.mono x1)) T.z_enumerate
      · exact wi_enumT (en_var (i := 1) rfl (rn.mono x1)) T.z_enumerate
    refine rb_for (g := gTup K 2 (gCons (gName 2) (gCons (gName 3) gNil))) (set := set2 2 3) (parts := pair?) PassesOwn.never rfl (walk s1.b) (pg_tup rfl (pgs_cons (pg_name sc_Row_init.nd rfl (Or.inl rfl)) (pgs_cons (pg_name sc_Row_init.nd rfl (Or.inl rfl)) pgs_nil))) (gt_pair 2 3) s1.bh fun ds B2 H2 s2 hds => ?_
    subst hds
    have st2 := s1.trans s2
    refine ⟨fun i σ1 B3 H3 => ∃ a2 a3 : Option V, B3 = B2 ∧ Ex B2 H3 ∧ Ex H H3 ∧ σ1 = [some (.ref x), some nv, a2, a3], ⟨none, none, rfl, s2.bh, st2.h, rfl⟩, (fun i σ1 B3 H3 ⟨_, _, e, x, _⟩ => by subst e; exact ⟨Ex.refl _, x⟩), ?_, ?_⟩
    · rintro i d σ1 B3 H3 hd ⟨a2, a3, rfl, x1, x2, rfl⟩
      have hi : i < (enumD (D.strs ws)).length := (List.getElem?_eq_some_iff.mp hd).1
      rw [enumD_length, llen] at hi
      have ez : ws[i]? = some ws[i] := List.getElem?_eq_getElem hi
      have hz := hws ws[i] (List.getElem_mem hi)
      generalize ws[i] = z at ez hz
      rw [enumD_at (d := .str z) (by unfold D.strs; rw [List.getElem?_map, ez]; rfl)] at hd
      cases hd
      refine ⟨[.int (i : Nat), .str z], rfl, fun B4 H4 us s4 rus => ?_⟩
      obtain ⟨v1, v2, rfl, r1, r2⟩ := rpl2 rus
      cases Rp.int.mp r1
      cases Rp.str.mp r2
      exact rb_ifF (ET.eq (ed_not (et_valE (EN.imp (ed_callO (ok_is_name T) hr1 T.m_is_name T.f_is_name.kp T.b_is_name (ea_cons (en_var (i := 3) rfl (Rp.str.mpr rfl)) ea_nil) ⟨z, hz, rfl⟩) fun d q => q.symm))) rfl) (s4.b.trans s4.bh) fun B5 H5 s5 => rb_nil ⟨B3, _, _, rfl, s5.b.trans s5.bh, (x2.trans s4.h).trans s5.h, rfl⟩
    · rintro σ1 B3 H3 ⟨a2, a3, rfl, x1, x2, rfl⟩
      refine rb_drop (P := fun d => d = .non) (EN.imp (ed_callO (ok_few T) hr1 T.m_want_few_runs T.f_want_few_runs.kp T.b_want_few_runs (ea_cons (en_callB T.z_len bt_len (ea_cons (en_var (i := 1) rfl (rn.mono st2.b)) ea_nil) fun ds q => q ▸ hlen) ea_nil) ⟨_, by omega, rfl⟩) fun d q => q) x1 fun v d B4 H4 s4 q4 r4 => ?_
      have stB : Fx.Step B H B4 H4 := (Fx.Step.grow st2 x1 x2).trans s4
      refine rb_fld (i := 0) (B := B4) (y := x) (C := T.C_Row) (dx := dx) (gs := []) (P := Eq (.tup (D.strs ws))) rfl (stB.keep hB hX).1 (stB.h _ _ hX) T.own_Row.cl T.n_Row_own_names (by decide) (en_callTy T.z_tuple bt_tuple (ea_cons (en_var (i := 1) rfl (rn.mono stB.b)) ea_nil) fun ds q => q ▸ htup) stB.bh fun v5 d5 B5 H5 s5 b5 q5 r5 => rb_nil ?_
      subst q5
      have st5 := stB.trans s5
      refine kk _ B5 _ st5.b (st5.bh.put b5) (fun a o na ha => by rw [upd_ne na]; exact st5.h a o ha) st5.nw upd_same ?_
      have ef : fsR [d0] = (([("own_names", .tup (D.strs ws))] : List (Str × D))) := by rcases hd0 with rfl | rfl <;> rfl
      rw [ef]
      show RpF K B5 [("own_names", .tup (D.strs ws))] [("own_names", v5)]
      simp only [RpF]
      exact ⟨v5, [], rfl, r5, rfl⟩
theorem en_own {X : Cx} {C : Addr} {o : Expr} {pos : Pos} {σ : L2.St} {B : Hp} {ws : List Str} (c : Cls X.K C) (hn : NoAttr X.K C "own_names") (ho : EN X o σ B (Eq (rowD C ws))) (hb : attributeBase o "own_names" X.env (eval o X.env) = eval o X.env := by rfl) : EN X (.Attribute o "own_names" pos) σ B (Eq (.tup (D.strs ws))) :=
  en_fld c hn ho (row_look ws) hb
/-- a Row of a list or tuple of names -/
theorem en_row {X : Cx} {C f : Addr} {fd : FuncData} {e : Expr} {p pos : Pos} {σ : L2.St} {B : Hp} {ws : List Str} (M : Mk X.K C f) (F : FnOk X.prog X.w X.K X.mg X.base CX0 2 f fd ["self", "names"] (spMake X.K C preR fsR)) (hr : Room 3 X.A) (hm : X.mg "Row" = some (.ref C)) (hb : Binds X.K fd ["self", "names"] [])
    (he : EN X e σ B (fun d => d = .lst (D.strs ws) ∨ d = .tup (D.strs ws))) (h : (∀ z ∈ ws, Nm z) ∧ ws.length ≤ 400) (hg : Gl X "Row" := by rfl) (hst : starEach [e] X.env = (false, eval e X.env) :: starEach [] X.env := by rfl) (hpl : (backTo pos (starEach [] X.env)).any (·.1) = false := by rfl) :
    EN X (.Call (.Name "Row" p) [e] [] pos) σ B (Eq (rowD C ws)) :=
  EN.imp (en_make (pos := pos) (PL := fun l => ∃ d ds, l = d :: ds ∧ (d = .lst (D.strs ws) ∨ d = .tup (D.strs ws)) ∧ Eq [] ds) M F hr hm hb (ea_consN he ea_nil hst) (fun ds ⟨d, t, q, e, e2⟩ => by
    subst e2; subst q
    exact ⟨ws, by rcases e with rfl | rfl; exact .inl rfl; exact .inr rfl, h.1, h.2⟩) hg (by decide) hst hpl) fun d ⟨ds, ⟨d1, t, q, e, e2⟩, e3⟩ => by
    subst e2; subst q; subst e3
    rcases e with rfl | rfl <;> rfl
section
variable (T : Tx K mg)
/-- what stands in the way of each def of Row: itself a row of names -/
abbrev RowIn (C : Addr) (ds : List D) : Prop := ∃ ws : List Str, ds = [rowD C ws] ∧ (∀ z ∈ ws, Nm z) ∧ ws.length ≤ 400
theorem ok_names : FnOk P w K mg base CX0 1 T.a_Row_names T.d_Row_names ["self"] (spD K (RowIn T.C_Row) (fun ds d => ∃ ws : List Str, ds = [rowD T.C_Row ws] ∧ d = .tup (D.strs ws))) :=
  Fx.Fun.okD T.f_Row_names sc_Row_names (fun ds ⟨_, q, _⟩ => by rw [q]; rfl) fun cdv A outer s E ds vs B H hr hx r hp => by
    obtain ⟨ws, rfl, hws, hl⟩ := hp
    obtain ⟨v, rfl, rv⟩ := rpl1 r
    exact rb_ret (en_own T.own_Row.cl T.n_Row_own_names (en_var (i := 0) rfl rv)) hx fun v d B' H' s q r => Ret.of s ⟨ws, rfl, q.symm⟩ r
end
end
end Fk
set_option Elab.async false
set_option linter.all false
set_option maxRecDepth 100000
set_option maxHeartbeats 4000000
namespace Fk
open PySem L2 Fx
section
variable {P : Program} {w : World} {K : PySem.W.Frag} {mg : Str → Option Value} {base : Heap}
theorem nm_ok {z : Str} (h : Nm z) : PyData.strOk z = true := by
  unfold PyData.strOk
  rw [← Array.all_toList, List.all_eq_true]
  intro c hc
  exact decide_eq_true (by have := h.2.2 c hc; omega)
/-- whatever has a type that is neither the class nor under it -/
theorem other_data {X : Cx} {C : Addr} {d : D} {t : Value} (h : TyD X.K d t) (hn : PySem.W.notFirst X.K C t = true) : Other X C d := fun I hx r ru => by
  obtain ⟨PH, kx, ph, _⟩ := kit_of I ru (tyD_of h (r.mono hx))
  exact ⟨t, kx.ty _ _ I.kIn ph, hn⟩
theorem not_first {K : PySem.W.Frag} {C : Addr} {n : String} (h : PySem.W.subIn K (.type n) (.ref C) = some false) : PySem.W.notFirst K C (.type n) = true := by
  unfold PySem.W.notFirst
  rw [h]
  simp
theorem kit_own {K : PySem.W.Frag} {C : Addr} {n : String} (h : PySem.W.subIn K (.type n) (.ref C) = some false) (ci : PySem.W.isClsIn K C = true) (ti : PySem.W.typeIn K (.ref C) = some (.type "type")) : PySem.W.kitOne K (.type n) (.ref C) = some false := by
  have e : PySem.W.kitCls K (.type n) (.ref C) = if ((PySem.W.clsIn K C).isSome && PySem.W.typeIn K (.ref C) == some (.type "type")) = true then PySem.W.subIn K (.type n) (.ref C) else none := rfl
  have c2 : (PySem.W.clsIn K C).isSome = true := ci
  have n1 : (Value.type n == Value.ref C) = false := rfl
  rw [PySem.W.kitOne, n1, if_neg (by decide), e, c2, ti, if_pos (by simp), h]
section
variable (T : Tx K mg)
def EqIn (K : PySem.W.Frag) (C : Addr) (y : D) : Prop := (∃ us : List Str, y = rowD C us ∧ ∀ z ∈ us, Nm z) ∨ ((∀ us, y ≠ rowD C us) ∧ ∃ t, TyD K y t ∧ PySem.W.kitOne K t (.ref C) = some false)
theorem ok_eq : FnOk P w K mg base CX0 1 T.a_Row_eq T.d_Row_eq ["self", "other"] (spD K (fun ds => ∃ (ws : List Str) (y : D), ds = [rowD T.C_Row ws, y] ∧ (∀ z ∈ ws, Nm z) ∧ EqIn K T.C_Row y) (fun ds d => ∃ (ws : List Str) (y : D) (b : Bool), ds = [rowD T.C_Row ws, y] ∧ d = .bl b ∧ (b = true ↔ y = rowD T.C_Row ws))) :=
  Fx.Fun.okD T.f_Row_eq sc_Row_eq (fun ds ⟨_, _, q, _⟩ => by rw [q]; rfl) fun cdv A outer s E ds vs B H hr hx r hp => by
    obtain ⟨a, y, rfl, ha, hy⟩ := hp
    obtain ⟨v, u, rfl, rv, ru⟩ := rpl2 r
    have hu : A.units + 3 + 64 < cLine := by have := hr.un; show _ < _; have e : (A.deeper (PyProof.Rows.envOfC "Row.__eq__" (defScope s_Row_eq) s.heap.objs.size T.a_Row_eq cdv)).units = A.units + 3 := rfl; omega
    rcases hy with ⟨b, rfl, hb⟩ | ⟨hy, t, ht, hk⟩
    · refine rb_ret (en_andV (t := true) (u := decide (a = b)) (en_callB T.z_isinstance bt_isinstance (ea_cons (en_var (i := 1) rfl ru) (ea_cons (en_cls T.m_Row) ea_nil)) fun ds q => q ▸ cd_isiO1 T.own_Row) fun _ => ed_cmp (en_own T.own_Row.cl T.n_Row_own_names (en_var (i := 0) rfl rv)) (en_own T.own_Row.cl T.n_Row_own_names (en_var (i := 1) rfl ru)) (od_eqTs hu (fun z hz => nm_ok (ha z hz)) (fun z hz => nm_ok (hb z hz)))) hx fun v d B' H' s q r => Ret.of s ⟨a, _, _, rfl, q.symm, ?_⟩ r
      constructor
      · intro h
        have : a = b := by simpa using h
        rw [this]
      · intro h
        simp [row_inj h]
    · refine rb_ret (en_andV (t := false) (u := false) (en_callB T.z_isinstance bt_isinstance (ea_cons (en_var (i := 1) rfl ru) (ea_cons (en_cls T.m_Row) ea_nil)) fun ds q => q ▸ cd_isiO ht hk) fun z => nomatch z) hx fun v d B' H' s q r => Ret.of s ⟨a, _, _, rfl, q.symm, ?_⟩ r
      constructor
      · intro h; exact absurd h (by decide)
      · intro h; exact absurd h (hy a)
end
end
end Fk
set_option Elab.async false
set_option linter.all false
set_option maxRecDepth 100000
set_option maxHeartbeats 4000000
namespace Fk
open PySem L2 Fx Wx
abbrev usN : List Str := ["is_integer", "is_count", "is_list", "is_name", "want_few_runs", "_law_pot", "_law_draw", "_law_pick", "_law_labels", "_law_told", "_law_ends_right", "_law_counts_right", "_law_wrong", "_law_kept_right", "_law_no_lists_right", "_law_right", "law", "Row"]
abbrev bsN : List Str := ["isinstance", "list", "tuple", "str", "len", "all", "enumerate", "abs", "max", "int", "divmod", "range", "min", "repr", "bool"]
section
variable {K : PySem.W.Frag} {mg : Str → Option Value}
def gam (T : Tx K mg) : Nat → Value
  | 0 => .ref T.a_is_integer
  | 1 => .ref T.a_is_count
  | 2 => .ref T.a_is_list
  | 3 => .ref T.a_is_name
  | 4 => .ref T.a_want_few_runs
  | 5 => .ref T.a_l_pot
  | 6 => .ref T.a_l_draw
  | 7 => .ref T.a_l_pick
  | 8 => .ref T.a_l_labels
  | 9 => .ref T.a_l_told
  | 10 => .ref T.a_l_ends_right
  | 11 => .ref T.a_l_counts_right
  | 12 => .ref T.a_l_wrong
  | 13 => .ref T.a_l_kept_right
  | 14 => .ref T.a_l_no_lists_right
  | 15 => .ref T.a_l_right
  | 16 => .ref T.a_law
  | 17 => .ref T.C_Row
  | _ => .none
theorem gl_ok (T : Tx K mg) : Gl' K mg (gam T) usN bsN := ⟨fun i x h => by
  match i, h with
  | 0, h =>
    obtain rfl : ("is_integer" : Str) = x := Option.some.inj h
    exact ⟨T.m_is_integer, T.f_is_integer.kp⟩
  | 1, h =>
    obtain rfl : ("is_count" : Str) = x := Option.some.inj h
    exact ⟨T.m_is_count, T.f_is_count.kp⟩
  | 2, h =>
    obtain rfl : ("is_list" : Str) = x := Option.some.inj h
    exact ⟨T.m_is_list, T.f_is_list.kp⟩
  | 3, h =>
    obtain rfl : ("is_name" : Str) = x := Option.some.inj h
    exact ⟨T.m_is_name, T.f_is_name.kp⟩
  | 4, h =>
    obtain rfl : ("want_few_runs" : Str) = x := Option.some.inj h
    exact ⟨T.m_want_few_runs, T.f_want_few_runs.kp⟩
  | 5, h =>
    obtain rfl : ("_law_pot" : Str) = x := Option.some.inj h
    exact ⟨T.m_l_pot, T.f_l_pot.kp⟩
  | 6, h =>
    obtain rfl : ("_law_draw" : Str) = x := Option.some.inj h
    exact ⟨T.m_l_draw, T.f_l_draw.kp⟩
  | 7, h =>
    obtain rfl : ("_law_pick" : Str) = x := Option.some.inj h
    exact ⟨T.m_l_pick, T.f_l_pick.kp⟩
  | 8, h =>
    obtain rfl : ("_law_labels" : Str) = x := Option.some.inj h
    exact ⟨T.m_l_labels, T.f_l_labels.kp⟩
  | 9, h =>
    obtain rfl : ("_law_told" : Str) = x := Option.some.inj h
    exact ⟨T.m_l_told, T.f_l_told.kp⟩
  | 10, h =>
    obtain rfl : ("_law_ends_right" : Str) = x := Option.some.inj h
    exact ⟨T.m_l_ends_right, T.f_l_ends_right.kp⟩
  | 11, h =>
    obtain rfl : ("_law_counts_right" : Str) = x := Option.some.inj h
    exact ⟨T.m_l_counts_right, T.f_l_counts_right.kp⟩
  | 12, h =>
    obtain rfl : ("_law_wrong" : Str) = x := Option.some.inj h
    exact ⟨T.m_l_wrong, T.f_l_wrong.kp⟩
  | 13, h =>
    obtain rfl : ("_law_kept_right" : Str) = x := Option.some.inj h
    exact ⟨T.m_l_kept_right, T.f_l_kept_right.kp⟩
  | 14, h =>
    obtain rfl : ("_law_no_lists_right" : Str) = x := Option.some.inj h
    exact ⟨T.m_l_no_lists_right, T.f_l_no_lists_right.kp⟩
  | 15, h =>
    obtain rfl : ("_law_right" : Str) = x := Option.some.inj h
    exact ⟨T.m_l_right, T.f_l_right.kp⟩
  | 16, h =>
    obtain rfl : ("law" : Str) = x := Option.some.inj h
    exact ⟨T.m_law, T.f_law.kp⟩
  | 17, h =>
    obtain rfl : ("Row" : Str) = x := Option.some.inj h
    exact ⟨T.m_Row, T.mk_Row.kp⟩
  | n + 18, h => exact absurd (show (none : Option Str) = some x from h) (by simp), fun x hx => by
  simp only [bsN, List.mem_cons, List.not_mem_nil, or_false] at hx
  rcases hx with rfl | rfl | rfl | rfl | rfl | rfl | rfl | rfl | rfl | rfl | rfl | rfl | rfl | rfl | rfl
  · exact T.z_isinstance
  · exact T.z_list
  · exact T.z_tuple
  · exact T.z_str
  · exact T.z_len
  · exact T.z_all
  · exact T.z_enumerate
  · exact T.z_abs
  · exact T.z_max
  · exact T.z_int
  · exact T.z_divmod
  · exact T.z_range
  · exact T.z_min
  · exact T.z_repr
  · exact T.z_bool⟩
end
def ir_is_integer : List IS := [.ret (.and [.cb "isinstance" "isinstance" [.v 0, .gl "int"], .not (.cb "isinstance" "isinstance" [.v 0, .gl "bool"])])]
theorem ck_is_integer : ckB ⟨N_is_integer, defScope s_is_integer, usN, bsN, true⟩ ir_is_integer (defBody s_is_integer) = true := by decide +kernel
def ir_is_count : List IS := [.ret (.and [.cu "is_integer" 0 [.v 0], .cmp .GtE (.v 0) (.int 0)])]
theorem ck_is_count : ckB ⟨N_is_count, defScope s_is_count, usN, bsN, true⟩ ir_is_count (defBody s_is_count) = true := by decide +kernel
def ir_is_list : List IS := [.ret (.isT (.v 0) [.gl "list", .gl "tuple"])]
theorem ck_is_list : ckB ⟨N_is_list, defScope s_is_list, usN, bsN, true⟩ ir_is_list (defBody s_is_list) = true := by decide +kernel
def ir_Row_want_many : List IS := [.ife (.or [.not (.cu "is_count" 1 [.v 1]), .cmp .Gt (.v 1) (.cb "len" "len" [.att (.v 0) "own_names"])]) [.raise "InvalidCount" [.v 1]] []]
theorem ck_Row_want_many : ckB ⟨N_Row_want_many, defScope s_Row_want_many, usN, bsN, true⟩ ir_Row_want_many (defBody s_Row_want_many) = true := by decide +kernel
def ir_Row_want_position : List IS := [.ife (.or [.not (.cu "is_count" 1 [.v 1]), .cmp .GtE (.v 1) (.cb "len" "len" [.att (.v 0) "own_names"])]) [.raise "InvalidPosition" [.v 1]] []]
theorem ck_Row_want_position : ckB ⟨N_Row_want_position, defScope s_Row_want_position, usN, bsN, true⟩ ir_Row_want_position (defBody s_Row_want_position) = true := by decide +kernel
def ir_Row_first : List IS := [.drop (.mu (.v 0) "want_many" [.v 1]),
  .ret (.cu "Row" 17 [.sl (.att (.v 0) "own_names") [] [.v 1]])]
theorem ck_Row_first : ckB ⟨N_Row_first, defScope s_Row_first, usN, bsN, true⟩ ir_Row_first (defBody s_Row_first) = true := by decide +kernel
def ir_Row_after : List IS := [.drop (.mu (.v 0) "want_many" [.v 1]),
  .ret (.cu "Row" 17 [.sl (.att (.v 0) "own_names") [.v 1] []])]
theorem ck_Row_after : ckB ⟨N_Row_after, defScope s_Row_after, usN, bsN, true⟩ ir_Row_after (defBody s_Row_after) = true := by decide +kernel
def ir_Row_without : List IS := [.drop (.mu (.v 0) "want_position" [.v 1]),
  .ret (.cu "Row" 17 [.bin .Add (.sl (.att (.v 0) "own_names") [] [.v 1]) (.sl (.att (.v 0) "own_names") [.bin .Add (.v 1) (.int 1)] [])])]
theorem ck_Row_without : ckB ⟨N_Row_without, defScope s_Row_without, usN, bsN, true⟩ ir_Row_without (defBody s_Row_without) = true := by decide +kernel
def ir_Row_kept : List IS := [.ife (.not (.cu "is_list" 2 [.v 1])) [.raise "InvalidPositions" [.non]] [],
  .set 2 (.un .USub (.int 1)),
  .forI [3, 4] (.en (.v 1)) [.ife (.or [.not (.cu "is_count" 1 [.v 4]), .not (.cm2 .Lt .Lt (.v 2) (.v 4) (.cb "len" "len" [.att (.v 0) "own_names"]))]) [.raise "InvalidPositions" [.v 3]] [], .set 2 (.v 4)],
  .ret (.cu "Row" 17 [.lc (.ix (.att (.v 0) "own_names") (.v 4)) [4] (.li (.v 1)) [] [("position", 4)]])]
theorem ck_Row_kept : ckB ⟨N_Row_kept, defScope s_Row_kept, usN, bsN, true⟩ ir_Row_kept (defBody s_Row_kept) = true := by decide +kernel
def ir_Row_add : List IS := [.drop (.cu "want_few_runs" 4 [.bin .Add (.cb "len" "len" [.att (.v 0) "own_names"]) (.cb "len" "len" [.att (.v 1) "own_names"])]),
  .ret (.cu "Row" 17 [.bin .Add (.att (.v 0) "own_names") (.att (.v 1) "own_names")])]
theorem ck_Row_add : ckB ⟨N_Row_add, defScope s_Row_add, usN, bsN, true⟩ ir_Row_add (defBody s_Row_add) = true := by decide +kernel
def ir_Row_invert : List IS := [.ret (.cu "Row" 17 [.rev (.att (.v 0) "own_names")])]
theorem ck_Row_invert : ckB ⟨N_Row_invert, defScope s_Row_invert, usN, bsN, true⟩ ir_Row_invert (defBody s_Row_invert) = true := by decide +kernel
def ir_l_told : List IS := [.set 1 (.lst [.str "other"]),
  .tryE [.set 1 (.lst [.str "row", .att (.pr (.act 0) []) "names"])] [⟨"InvalidCount", some 2, [.set 3 (.not (.isT 2 ["InvalidPosition", "InvalidPositions"])), .set 1 (.lst [.str "count", .xf 2 "value", .and [.is1 2 "FixError", .v 3]])]⟩, ⟨"InvalidPositions", some 2, [.set 3 (.not (.isT 2 ["InvalidPosition", "InvalidCount"])), .set 1 (.lst [.str "positions", .xf 2 "position", .and [.is1 2 "FixError", .v 3]])]⟩],
  .ret (.v 1)]
theorem ck_l_told : ckB ⟨N_l_told, defScope s_l_told, usN, bsN, true⟩ ir_l_told (defBody s_l_told) = true := by decide +kernel
def ir_l_ends_right : List IS := [.forI [2] (.ra (.bin .Add (.cb "len" "len" [.v 1]) (.int 1))) [.set 3 (.lst [.mu (.v 0) "first" [.v 2], .mu (.v 0) "after" [.v 2], .muk (.v 0) "first" [] ["many"] [.v 2], .muk (.v 0) "after" [] ["many"] [.v 2]]), .ife (.cmp .NotEq (.lc (.att (.v 4) "names") [4] (.li (.v 3)) [] [("_law_some", 4)]) (.bin .Mult (.lst [.ct "tuple" "tuple" [.sl (.v 1) [] [.v 2]], .ct "tuple" "tuple" [.sl (.v 1) [.v 2] []]]) (.int 2))) [.ret (.bl false)] [], .ife (.or [.cmp .NotEq (.bin .Add (.mu (.v 0) "first" [.v 2]) (.mu (.v 0) "after" [.v 2])) (.v 0), .cmp .NotEq (.un .Invert (.mu (.v 0) "first" [.v 2])) (.mu (.un .Invert (.v 0)) "after" [.bin .Sub (.cb "len" "len" [.v 1]) (.v 2)])]) [.ret (.bl false)] []],
  .ret (.bl true)]
theorem ck_l_ends_right : ckB ⟨N_l_ends_right, defScope s_l_ends_right, usN, bsN, true⟩ ir_l_ends_right (defBody s_l_ends_right) = true := by decide +kernel
def ir_l_counts_right : List IS := [.set 3 (.cb "len" "len" [.v 2]),
  .set 4 (.lst [.non, .bl true, .bl false, .un .USub (.int 1), .bin .Add (.v 3) (.int 1), .bin .Add (.bin .Add (.v 3) (.int 1)) (.cu "_law_draw" 6 [.v 0, .bin .Pow (.int 10) (.int 20)]), .str "0", .str "", .tup [.int 0], .lst [.int 0], .dic0]),
  .forI [5] (.li (.v 4)) [.set 6 (.olst [.pr (.told "_law_told" 9) [.lam (.mu (.v 1) "first" [.v 5])]]), .drop (.mb (.v 6) "append" [.pr (.told "_law_told" 9) [.lam (.mu (.v 1) "after" [.v 5])]]), .drop (.mb (.v 6) "append" [.pr (.told "_law_told" 9) [.lam (.muk (.v 1) "after" [] ["many"] [.v 5])]]), .ife (.cmp .NotEq (.v 6) (.bin .Mult (.lst [.lst [.str "count", .v 5, .bl true]]) (.int 3))) [.ret (.bl false)] []],
  .ret (.bl true)]
theorem ck_l_counts_right : ckB ⟨N_l_counts_right, defScope s_l_counts_right, usN, bsN, true⟩ ir_l_counts_right (defBody s_l_counts_right) = true := by decide +kernel
def ir_l_wrong : List IS := [.set 2 (.un .USub (.int 1)),
  .forI [3, 4] (.en (.v 0)) [.ife (.or [.not (.cb "isinstance" "isinstance" [.v 4, .gl "int"]), .cb "isinstance" "isinstance" [.v 4, .gl "bool"], .not (.cm2 .Lt .Lt (.v 2) (.v 4) (.v 1))]) [.ret (.v 3)] [], .set 2 (.v 4)],
  .ret (.non)]
theorem ck_l_wrong : ckB ⟨N_l_wrong, defScope s_l_wrong, usN, bsN, true⟩ ir_l_wrong (defBody s_l_wrong) = true := by decide +kernel
def ir_l_kept_right : List IS := [.set 3 (.lc (.v 13) [13] (.ra (.cb "len" "len" [.v 2])) [.cmp .Eq (.cu "_law_draw" 6 [.v 0, .int 2]) (.int 0)] [("_law_k", 13)]),
  .par [4, 5] [.ct "list" "list" [.v 3], .cb "repr" "repr" [.v 3]],
  .set 6 (.lst [.str "row", .ct "tuple" "tuple" [.lc (.ix (.v 2) (.v 13)) [13] (.li (.v 3)) [] [("_law_k", 13)]]]),
  .set 7 (.olst [.pr (.told "_law_told" 9) [.lam (.mu (.v 1) "kept" [.v 4])]]),
  .drop (.mb (.v 7) "append" [.pr (.told "_law_told" 9) [.lam (.mu (.v 1) "kept" [.ct "tuple" "tuple" [.v 4]])]]),
  .drop (.mb (.v 7) "append" [.pr (.told "_law_told" 9) [.lam (.muk (.v 1) "kept" [] ["positions"] [.v 4])]]),
  .ife (.or [.cmp .NotEq (.v 7) (.bin .Mult (.lst [.v 6]) (.int 3)), .cmp .NotEq (.cb "repr" "repr" [.v 4]) (.v 5)]) [.ret (.bl false)] [],
  .set 8 (.lc (.v 13) [13] (.ra (.cb "len" "len" [.v 3])) [.cmp .Eq (.cu "_law_draw" 6 [.v 0, .int 2]) (.int 0)] [("_law_k", 13)]),
  .ife (.cmp .NotEq (.att (.mu (.mu (.v 1) "kept" [.v 3]) "kept" [.v 8]) "names") (.ct "tuple" "tuple" [.lc (.ix (.v 2) (.ix (.v 3) (.v 13))) [13] (.li (.v 8)) [] [("_law_k", 13)]])) [.ret (.bl false)] [],
  .set 9 (.cu "_law_draw" 6 [.v 0, .bin .Add (.cb "len" "len" [.v 3]) (.int 1)]),
  .set 10 (.bin .Add (.lst [.non, .bl true, .bl false, .un .USub (.int 1), .str "0", .tup [.int 0], .lst [.int 0], .dic0, .cb "len" "len" [.v 2], .bin .Add (.cb "len" "len" [.v 2]) (.bin .Pow (.int 10) (.int 20))]) (.v 3)),
  .set 11 (.bin .Add (.bin .Add (.bin .Add (.sl (.v 3) [] [.v 9]) (.lst [.cu "_law_pick" 7 [.v 0, .v 10]])) (.sl (.v 3) [.v 9] [])) (.lst [.cu "_law_pick" 7 [.v 0, .v 10]])),
  .par [12, 5] [.cu "_law_wrong" 12 [.v 11, .cb "len" "len" [.v 2]], .cb "repr" "repr" [.v 11]],
  .set 7 (.pr (.told "_law_told" 9) [.lam (.mu (.v 1) "kept" [.v 11])]),
  .ife (.cmp .Is (.v 12) (.non)) [.ret (.and [.cmp .Eq (.v 7) (.lst [.str "row", .ct "tuple" "tuple" [.lc (.ix (.v 2) (.v 13)) [13] (.li (.v 11)) [] [("_law_k", 13)]]]), .cmp .Eq (.cb "repr" "repr" [.v 11]) (.v 5)])] [],
  .ret (.and [.cmp .Eq (.v 7) (.lst [.str "positions", .v 12, .bl true]), .cmp .Eq (.cb "repr" "repr" [.v 11]) (.v 5)])]
theorem ck_l_kept_right : ckB ⟨N_l_kept_right, defScope s_l_kept_right, usN, bsN, true⟩ ir_l_kept_right (defBody s_l_kept_right) = true := by decide +kernel
def ir_l_no_lists_right : List IS := [.set 2 (.cu "_law_pick" 7 [.v 0, .lst [.non, .int 0, .bl true, .str "", .str "0", .dic0, .pr (.dicC [(.inl 0, .int 0)]) [], .v 1, .bin .Pow (.int 10) (.int 20)]]),
  .ret (.cmp .Eq (.pr (.told "_law_told" 9) [.lam (.mu (.v 1) "kept" [.v 2])]) (.lst [.str "positions", .non, .bl true]))]
theorem ck_l_no_lists_right : ckB ⟨N_l_no_lists_right, defScope s_l_no_lists_right, usN, bsN, true⟩ ir_l_no_lists_right (defBody s_l_no_lists_right) = true := by decide +kernel
def ir_l_right : List IS := [.set 1 (.cu "_law_labels" 8 [.v 0, .bin .Add (.int 1) (.cu "_law_draw" 6 [.v 0, .int 4])]),
  .forI [2] (.ra (.int 3)) [.set 3 (.lc (.cu "_law_pick" 7 [.v 0, .v 1]) [5] (.ra (.cu "_law_draw" 6 [.v 0, .int 13])) [] [("_law_k", 5)]), .set 4 (.cu "Row" 17 [.v 3]), .ife (.or [.not (.cu "_law_ends_right" 10 [.v 4, .v 3]), .not (.cu "_law_counts_right" 11 [.v 0, .v 4, .v 3])]) [.ret (.bl false)] [], .ife (.or [.not (.cu "_law_kept_right" 13 [.v 0, .v 4, .v 3]), .not (.cu "_law_no_lists_right" 14 [.v 0, .v 4])]) [.ret (.bl false)] [], .forI [5] (.ra (.cb "len" "len" [.v 3])) [.set 6 (.ct "tuple" "tuple" [.bin .Add (.sl (.v 3) [] [.v 5]) (.sl (.v 3) [.bin .Add (.v 5) (.int 1)] [])]), .ife (.or [.cmp .NotEq (.att (.mu (.v 4) "without" [.v 5]) "names") (.v 6), .cmp .NotEq (.muk (.v 4) "without" [] ["position"] [.v 5]) (.bin .Add (.mu (.v 4) "first" [.v 5]) (.mu (.v 4) "after" [.bin .Add (.v 5) (.int 1)]))]) [.ret (.bl false)] []], .ife (.or [.cmp .NotEq (.att (.v 4) "names") (.ct "tuple" "tuple" [.v 3]), .cmp .NotEq (.mu (.v 4) "kept" [.pr .lrng [.cb "len" "len" [.v 3]]]) (.v 4), .cmp .NotEq (.mu (.v 4) "kept" [.lst []]) (.cu "Row" 17 [])]) [.ret (.bl false)] []],
  .ret (.bl true)]
theorem ck_l_right : ckB ⟨N_l_right, defScope s_l_right, usN, bsN, true⟩ ir_l_right (defBody s_l_right) = true := by decide +kernel
def ir_law : List IS := [.ret (.cb "all" "all" [.lc (.cu "_law_right" 15 [.cu "_law_pot" 5 [.v 0, .v 1]]) [1] (.ra (.cb "max" "max" [.int 1, .cb "min" "min" [.int 5, .cb "len" "len" [.v 0]]])) [] [("_law_k", 1)]])]
theorem ck_law : ckB ⟨N_law, defScope s_law, usN, bsN, true⟩ ir_law (defBody s_law) = true := by decide +kernel
section
variable {P : Program} {w : World} {K : PySem.W.Frag} {mg : Str → Option Value} {base : Heap} {Y : Co} {k : Nat} {T' : Tb}
theorem ex_InvalidCount (T : Tx K mg) (C : CoOk Y P w K mg base k) (hk : 2 ≤ k) : ExOk Y T' "InvalidCount" T.C_InvalidCount 1 (fun ds => match ds with | [d] => [("value", d)] | _ => []) := exOk_of T.er_InvalidCount T.f_InvalidCount_init sc_InvalidCount_init ib_InvalidCount_init T.b_InvalidCount_init C hk
theorem ex_InvalidPosition (T : Tx K mg) (C : CoOk Y P w K mg base k) (hk : 2 ≤ k) : ExOk Y T' "InvalidPosition" T.C_InvalidPosition 1 (fun ds => match ds with | [d] => [("value", d)] | _ => []) := exOk_of T.er_InvalidPosition T.f_InvalidPosition_init sc_InvalidPosition_init ib_InvalidPosition_init T.b_InvalidPosition_init C hk
theorem ex_InvalidPositions (T : Tx K mg) (C : CoOk Y P w K mg base k) (hk : 2 ≤ k) : ExOk Y T' "InvalidPositions" T.C_InvalidPositions 1 (fun ds => match ds with | [d] => [("position", d)] | _ => []) := exOk_of T.er_InvalidPositions T.f_InvalidPositions_init sc_InvalidPositions_init ib_InvalidPositions_init T.b_InvalidPositions_init C hk
end
end Fk
set_option Elab.async false
set_option linter.all false
set_option maxRecDepth 100000
set_option maxHeartbeats 4000000
namespace Fk
open PySem L2 Fx Wx
theorem big {n : Nat} (h : n ≤ 1000) : n ≤ sizeLine := Nat.le_trans h (by decide)
theorem cut_to (ws : List Str) {i : Int} (h : 0 ≤ i) : cutD (D.strs ws) none (some i) = D.strs (ws.take i.toNat) := by
  have e := cutD_to (D.strs ws) i.toNat
  rw [show ((i.toNat : Nat) : Int) = i from by omega] at e
  rw [e]; unfold D.strs; rw [List.map_take]
theorem cut_from (ws : List Str) {i : Int} (h : 0 ≤ i) : cutD (D.strs ws) (some i) none = D.strs (ws.drop i.toNat) := by
  have e := cutD_from (D.strs ws) i.toNat
  rw [show ((i.toNat : Nat) : Int) = i from by omega] at e
  rw [e]; unfold D.strs; rw [List.map_drop]
section
variable {P : Program} {w : World} {K : PySem.W.Frag} {mg : Str → Option Value} {base : Heap} {Y : Co} {T' : Tb} {k : Nat} {M : Mem} {Q : PD} {E : PX}
theorem cc_pick (T : Tx K mg) {ls : List Str} (C : CoOk Y P w K mg base k) (hk : 2 ≤ k) (hne : ls ≠ []) (hl : ls.length ≤ 200) (q : ∀ a ∈ ls, Q (.str a) M) : CC Y T' (.ref T.a_l_pick) [.pot, .lst (D.strs ls)] M Q E :=
  cc_old C (ok_pick T) hk T.b_l_pick ⟨_, rfl, fun z => hne (List.map_eq_nil_iff.mp z), by show (ls.map D.str).length < _; rw [List.length_map]; omega⟩ fun d ⟨xs, e, hx⟩ => by
    injection e with _ e
    injection e with e _
    injection e with e
    subst e
    obtain ⟨a, ha, rfl⟩ := List.mem_map.mp hx
    exact q a ha
theorem cc_draw (T : Tx K mg) {n : Int} (C : CoOk Y P w K mg base k) (hk : 1 ≤ k) (h0 : 0 < n) (h1 : n < 1000000000000000000000000000000) (q : ∀ m : Nat, (m : Int) < n → Q (.int (m : Int)) M) : CC Y T' (.ref T.a_l_draw) [.pot, .int n] M Q E :=
  cc_old C (ok_draw T) hk T.b_l_draw ⟨n, rfl, h0, h1⟩ fun d ⟨m, r, e, e2, h2, h3⟩ => by
    injection e with _ e
    injection e with e _
    injection e with e
    subst e
    subst e2
    obtain ⟨i, rfl⟩ : ∃ i : Nat, r = (i : Int) := ⟨r.toNat, by omega⟩
    exact q i h3
end
theorem row_data {K : PySem.W.Frag} {mg : Str → Option Value} (T : Tx K mg) {y : D} {n : String} (h : TyD K y (.type n)) (su : PySem.W.subIn K (.type n) (.ref T.C_Row) = some false) : ∀ X : Cx, X.K = K → Other X T.C_Row y := fun X e => by
  subst e
  exact other_data h (not_first su)
theorem row_row {K : PySem.W.Frag} {mg : Str → Option Value} (T : Tx K mg) {us : List Str} : ∀ X : Cx, X.K = K → Other X T.C_Row (rowD T.C_Row us) := fun X e => by
  subst e
  exact other_data (d := rowD T.C_Row us) (t := .ref T.C_Row) ⟨rfl, T.own_Row⟩ (by unfold PySem.W.notFirst; simp)
section
variable {P : Program} {w : World} {K : PySem.W.Frag} {mg : Str → Option Value} {base : Heap} {Y : Co} {T' : Tb} {k : Nat} {M : Mem} {Q : PD} {E : PX} (T : Tx K mg) {ws us : List Str} {y : D} {t : Bool}
theorem oc_eqR (C : CoOk Y P w K mg base k) (hk : 1 ≤ k) (hws : ∀ z ∈ ws, Nm z) (hy : EqIn K T.C_Row y) (ho : ∀ X : Cx, X.K = K → Other X T.C_Row y) (hn : nr y = true) (ht : t = true ↔ y = rowD T.C_Row ws) (q : Q (.bl t) M) : OC Y T' (compareOp .Eq) (rowD T.C_Row ws) y M Q E :=
  oc_eqO C T.sp_Row_eq (ok_eq T) hk T.b_Row_eq ho ⟨ws, y, rfl, hws, hy⟩ (fun d ⟨a, y', b, e, e2, e3⟩ => by
    injection e with e1 e
    injection e with e4 _
    rw [e2, Bool.eq_iff_iff.mpr (e3.trans (by rw [← e4, ← row_inj e1]; exact ht.symm))]) hn q
theorem oc_neR (C : CoOk Y P w K mg base k) (hk : 2 ≤ k) (hws : ∀ z ∈ ws, Nm z) (hy : EqIn K T.C_Row y) (ho : ∀ X : Cx, X.K = K → Other X T.C_Row y) (hn : nr y = true) (ht : t = true ↔ y = rowD T.C_Row ws) (q : Q (.bl (!t)) M) : OC Y T' (compareOp .NotEq) (rowD T.C_Row ws) y M Q E :=
  oc_neO C T.sp_Row_eq T.ne_Row T.own_Row.hm (ok_eq T) hk T.b_Row_eq ho ⟨ws, y, rfl, hws, hy⟩ (fun d ⟨a, y', b, e, e2, e3⟩ => by
    injection e with e1 e
    injection e with e4 _
    rw [e2, Bool.eq_iff_iff.mpr (e3.trans (by rw [← e4, ← row_inj e1]; exact ht.symm))]) hn q
theorem eq_row (h : ∀ z ∈ us, Nm z) : EqIn K T.C_Row (rowD T.C_Row us) := .inl ⟨us, rfl, h⟩
theorem cc_row (C : CoOk Y P w K mg base k) (hk : 3 ≤ k) (h : ∀ z ∈ us, Nm z) (hl : us.length ≤ 400) (q : Q (rowD T.C_Row us) M) : CC Y T' (.ref T.C_Row) [.lst (D.strs us)] M Q E := cc_make0 C T.mk_Row (ok_init T) hk T.b_Row_init ⟨us, .inl rfl, h, hl⟩ q
theorem cc_rowT (C : CoOk Y P w K mg base k) (hk : 3 ≤ k) (h : ∀ z ∈ us, Nm z) (hl : us.length ≤ 400) (q : Q (rowD T.C_Row us) M) : CC Y T' (.ref T.C_Row) [.tup (D.strs us)] M Q E := cc_make0 C T.mk_Row (ok_init T) hk T.b_Row_init ⟨us, .inr rfl, h, hl⟩ q
theorem cc_row0 (C : CoOk Y P w K mg base k) (hk : 3 ≤ k) (q : Q (rowD T.C_Row []) M) : CC Y T' (.ref T.C_Row) [] M Q E := cc_make (dds := [.tup []]) (dvs := [.ref T.e_Row_init]) C T.mk_Row (ok_init T) hk T.b0_Row_init (.cons rfl .nil) (fun B => RpL.cons (Rp.tup.mpr ⟨_, _, rfl, T.v0_Row_init B, RpL.nil⟩) RpL.nil) ⟨[], .inr rfl, (fun _ z => nomatch z), Nat.zero_le _⟩ q
theorem ck_row (C : CoOk Y P w K mg base k) (hk : 3 ≤ k) (h : ∀ z ∈ us, Nm z) (hl : us.length ≤ 400) (q : Q (rowD T.C_Row us) M) : CK Y T' (.ref T.C_Row) [] ["names"] [.lst (D.strs us)] M Q E := ck_make (n := 0) C T.mk_Row (ok_init T) hk T.bk_Row_init rfl rfl ⟨us, .inl rfl, h, hl⟩ q
theorem ck_rowT (C : CoOk Y P w K mg base k) (hk : 3 ≤ k) (h : ∀ z ∈ us, Nm z) (hl : us.length ≤ 400) (q : Q (rowD T.C_Row us) M) : CK Y T' (.ref T.C_Row) [] ["names"] [.tup (D.strs us)] M Q E := ck_make (n := 0) C T.mk_Row (ok_init T) hk T.bk_Row_init rfl rfl ⟨us, .inr rfl, h, hl⟩ q
theorem ac_names (C : CoOk Y P w K mg base k) (q : Q (.tup (D.strs ws)) M) : AC Y T' "own_names" (rowD T.C_Row ws) M Q E := ac_fld (by rw [C.K]; exact T.own_Row.cl) (by rw [C.K]; exact T.n_Row_own_names) (row_look ws) q
theorem ac_nm (C : CoOk Y P w K mg base k) (hk : 2 ≤ k) (h : ∀ z ∈ ws, Nm z) (hl : ws.length ≤ 400) (q : Q (.tup (D.strs ws)) M) : AC Y T' "names" (rowD T.C_Row ws) M Q E := by
  obtain ⟨p0, hp⟩ := T.pr_Row_names
  exact ac_prop C T.own_Row.cl hp (ok_names T) hk T.b_Row_names ⟨ws, rfl, h, hl⟩ fun d ⟨a, e, e2⟩ => by
    injection e with e _
    rw [e2, ← row_inj e]
    exact q
theorem mt_row {m : Str} {f : Addr} (C : CoOk Y P w K mg base k) (me : Meth K T.C_Row m f) (h : (m == ("own_names" : Str)) = false) : MtOk Y.K (rowD T.C_Row ws) M m f := by
  rw [C.K]
  exact .inl ⟨_, _, rfl, T.own_Row.cl, me, row_none ws h⟩
theorem row_ne {C : Addr} {a b : List Str} (h : a ≠ b) : (false = true) ↔ rowD C a = rowD C b := ⟨fun z => (nomatch z), fun z => absurd (row_inj z) h⟩
end
end Fk
set_option Elab.async false
set_option linter.all false
set_option maxRecDepth 100000
set_option maxHeartbeats 4000000
local macro_rules | `(tactic| walk_at "w") => `(tactic| repeat (first
  | ((with_reducible show Wx.wE _ _ _ (Wx.IE.v _) _ _ _ _); refine Wx.we_v rfl ?_)
  | (with_reducible first | refine Wx.wa_cons ?_ | refine Wx.wa_nil ?_ | refine Wx.wb_cons ?_ | refine Wx.wb_nil ?_ | refine Wx.we_cmp ?_ | refine Wx.we_bin ?_ | refine Wx.we_int ?_ | refine Wx.we_str ?_ | refine Wx.we_bl ?_ | refine Wx.we_non ?_ | refine Wx.we_cu ?_ | refine Wx.we_cb ?_ | refine Wx.we_ct ?_ | refine Wx.we_cuk ?_ | refine Wx.we_lst ?_ | refine Wx.we_tup ?_ | refine Wx.we_ix ?_ | refine Wx.we_sl ?_ | refine Wx.we_rev ?_ | refine Wx.we_att ?_ | refine Wx.we_not ?_ | refine Wx.we_and ?_ | refine Wx.we_or ?_ | refine Wx.we_un ?_ | refine Wx.we_ite ?_ | refine Wx.we_cm2 ?_ | refine Wx.we_dic0 ?_ | refine Wx.we_mu ?_ | refine Wx.we_mb ?_ | refine Wx.we_isT ?_ | refine Wx.we_muk ?_ | refine Wx.we_olst ?_ | refine Wx.we_oli ?_ | refine Wx.we_odic ?_)
  | (with_reducible first | refine Wx.wo_nil ?_ | refine Wx.wo_some ?_ | refine Wx.wand_1 ?_ | refine Wx.wand_2 ?_ | refine Wx.wor_1 ?_ | refine Wx.wor_2 ?_ | refine Wx.wt_not ?_ | refine Wx.wt_and ?_ | refine Wx.wt_or ?_ | refine Wx.wt_cmp ?_ | refine Wx.wt_cm2 ?_ | refine Wx.wtand_1 ?_ | refine Wx.wtand_2 ?_ | refine Wx.wtor_1 ?_ | refine Wx.wtor_2 ?_ | refine Wx.wts_nil ?_ | refine Wx.wts_1 ?_ | refine Wx.ws_set ?_ | refine Wx.ws_ret ?_ | refine Wx.ws_ret0 ?_ | refine Wx.ws_unp ?_ | refine Wx.ws_par ?_ | refine Wx.ws_drop ?_ | refine Wx.ws_ife ?_ | refine Wx.ws_pass ?_ | refine Wx.ws_brk ?_ | refine Wx.ws_cont ?_ | refine Wx.wi_ra ?_ | refine Wx.wi_zi ?_)
  | (with_reducible first | refine Wx.k_bl ?_ | refine Wx.k_lst ?_ | refine Wx.k_tup ?_ | refine Wx.k_str ?_ | refine Wx.k_int ?_ | refine Wx.k_zip ?_)
  | (with_reducible first | refine Wx.pc_tup ?_)
  | ((with_reducible refine Wx.k_len ?wh ?_); (case wh => rfl))
  | ((with_reducible refine Wx.wt_val ?wh ?_); (case wh => rfl))
  | (with_reducible first | refine Wx.oc_add ?_ | refine Wx.oc_sub ?_ | refine Wx.oc_lt ?_ | refine Wx.oc_le ?_ | refine Wx.oc_gt ?_ | refine Wx.oc_ge ?_ | refine Wx.oc_eqI ?_ | refine Wx.oc_neI ?_ | refine Wx.oc_eqT ?_ | refine Wx.oc_neT ?_ | refine Wx.oc_eqB ?_ | refine Wx.oc_neB ?_ | refine Wx.oc_isB ?_ | refine Wx.oc_notB ?_ | refine Wx.cc_lenL ?_ | refine Wx.cc_lenT ?_ | refine Wx.cc_listL ?_ | refine Wx.cc_listT ?_ | refine Wx.cc_tupL ?_ | refine Wx.cc_tupT ?_ | refine Wx.cc_int ?_ | refine Wx.cc_intB ?_ | refine Wx.cc_max ?_ | refine Wx.cc_min ?_ | refine Wx.cc_abs ?_ | refine Wx.pc_l ?_ | refine Wx.cc_all ?_ | refine Wx.cc_any ?_)))
/-! Law k13: the program's defs. -/
namespace Fk
open PySem L2 Fx Wx
def okCnt : D → Bool
  | .int i => decide (0 ≤ i) | _ => false
def okMany (n : Nat) : D → Bool
  | .int i => decide (0 ≤ i) && decide (i ≤ (n : Int)) | _ => false
def okSpot (n : Nat) : D → Bool
  | .int i => decide (0 ≤ i) && decide (i < (n : Int)) | _ => false
theorem isIn_int {d : D} (h : isIn d = true) : ∃ i, d = .int i := by cases d <;> first | exact ⟨_, rfl⟩ | cases h
theorem okCnt_f {d : D} (h : isIn d = false) : okCnt d = false := by cases d <;> first | rfl | cases h
theorem okCnt_int {d : D} (h : okCnt d = true) : ∃ i : Nat, d = .int (i : Int) := by
  cases d with
  | int i => exact ⟨i.toNat, by have := of_decide_eq_true (show decide (0 ≤ i) = true from h); congr 1; omega⟩
  | _ => cases h
theorem okMany_f {n : Nat} {d : D} (h : okCnt d = false) : okMany n d = false := by
  cases d <;> first | rfl | (show (decide _ && _) = false; rw [show decide _ = false from h]; rfl)
theorem okSpot_f {n : Nat} {d : D} (h : okCnt d = false) : okSpot n d = false := by
  cases d <;> first | rfl | (show (decide _ && _) = false; rw [show decide _ = false from h]; rfl)
section
variable {P : Program} {w : World} {K : PySem.W.Frag} {mg : Str → Option Value} {base : Heap} {T' : Tb}
theorem ox_is_integer (T : Tx K mg) : FnX P w K mg base T' 1 T.a_is_integer T.d_is_integer ["value"] (spP (fun ds => ∃ d, ds = [d] ∧ TyI K d) (fun ds r => ∃ d, ds = [d] ∧ r = .bl (isIn d))) :=
  fnP_of (Fun.toA T.f_is_integer) sc_is_integer (gl_ok T) ck_is_integer (fun ds ⟨_, q, _⟩ => by rw [q]; rfl) fun Y ds M Q E C hp hq => by
    obtain ⟨d, rfl, t, b1, b2, ht, k1, k2, e, hn, e0⟩ := hp
    show wB Y T' (gm0 (gam T)) ir_is_integer [some d] M _
    unfold ir_is_integer
    walk_at "w"
    refine we_ty C T.z_int rfl ?_
    walk_at "w"
    refine cc_isi C ht k1 ?_ hn
    walk_at "w"
    refine ⟨fun e1 => ?_, fun e1 => ?_⟩
    · walk_at "w"
      refine we_ty C T.z_bool rfl ?_
      walk_at "w"
      refine cc_isi C ht k2 ?_ hn
      walk_at "w"
      exact fz_q (hq _ ⟨d, rfl, by rw [← e, e1]; rfl⟩)
    · exact fz_q (hq _ ⟨d, rfl, by rw [e0 e1]⟩)
theorem ox_is_count (T : Tx K mg) : FnX P w K mg base T' 2 T.a_is_count T.d_is_count ["value"] (spP (fun ds => ∃ d, ds = [d] ∧ TyI K d) (fun ds r => ∃ d, ds = [d] ∧ r = .bl (okCnt d))) :=
  fnP_of (Fun.toA T.f_is_count) sc_is_count (gl_ok T) ck_is_count (fun ds ⟨_, q, _⟩ => by rw [q]; rfl) fun Y ds M Q E C hp hq => by
    obtain ⟨d, rfl, ht⟩ := hp
    show wB Y T' (gm0 (gam T)) ir_is_count [some d] M _
    unfold ir_is_count
    walk_at "w"
    refine cc_fn0 C (ox_is_integer T) (by decide) T.b_is_integer ⟨⟨d, rfl, ht⟩, ?_⟩
    rintro r ⟨d', q, rfl⟩
    injection q with q _
    subst q
    walk_at "w"
    refine ⟨fun e1 => ?_, fun e1 => ?_⟩
    · obtain ⟨i, rfl⟩ := isIn_int e1
      walk_at "w"
      exact fz_q (hq _ ⟨_, rfl, rfl⟩)
    · exact fz_q (hq _ ⟨d, rfl, by rw [okCnt_f e1]⟩)
/-- is the value a list or a tuple -/
def TyL (K : PySem.W.Frag) (d : D) : Prop := ∃ t, TyD K d t ∧ PySem.W.kitAny K t [.type "list", .type "tuple"] = some (isLs d) ∧ nr d = true
theorem cc_is_list (T : Tx K mg) : FnX P w K mg base T' 1 T.a_is_list T.d_is_list ["value"] (spP (fun ds => ∃ d, ds = [d] ∧ TyL K d) (fun ds r => ∃ d, ds = [d] ∧ r = .bl (isLs d))) :=
  fnP_of (Fun.toA T.f_is_list) sc_is_list (gl_ok T) ck_is_list (fun ds ⟨_, q, _⟩ => by rw [q]; rfl) fun Y ds M Q E C hp hq => by
    obtain ⟨d, rfl, t, ht, k1, hn⟩ := hp
    show wB Y T' (gm0 (gam T)) ir_is_list [some d] M _
    unfold ir_is_list
    walk_at "w"
    refine we_ty C T.z_list rfl ?_
    walk_at "w"
    refine we_ty C T.z_tuple rfl ?_
    walk_at "w"
    refine ⟨t, _, _, ?_, by rw [C.K]; exact k1, .cons (.inl ⟨_, rfl, rfl⟩) (.cons (.inl ⟨_, rfl, rfl⟩) .nil), fz_q (hq _ ⟨d, rfl, rfl⟩)⟩
    rw [C.K]
    unfold TyM
    cases d <;> first | exact ht | cases hn
/-- what the checks of a number do -/
def spWant (K : PySem.W.Frag) (C CE : Addr) (f : Str) (ok : Nat → D → Bool) : Wx.Spec := fun ds M Q E => ∃ ws d, ds = [rowD C ws, d] ∧ TyI K d ∧ (ok ws.length d = true → Q .non M) ∧ (ok ws.length d = false → E CE [(f, d)] M)
theorem ox_want_many (T : Tx K mg) : FnX P w K mg base T' 3 T.a_Row_want_many T.d_Row_want_many ["self", "many"] (spWant K T.C_Row T.C_InvalidCount "value" okMany) :=
  fnX_of (Fun.toA T.f_Row_want_many) sc_Row_want_many (gl_ok T) ck_Row_want_many (fun ds M Q E ⟨_, _, q, _⟩ => by rw [q]; rfl) fun Y ds M Q E C hp => by
    obtain ⟨ws, d, rfl, ht, hq, he⟩ := hp
    show wB Y T' (gm0 (gam T)) ir_Row_want_many [some (rowD T.C_Row ws), some d] M _
    unfold ir_Row_want_many
    walk_at "w"
    refine cc_fn0 C (ox_is_count T) (by decide) T.b_is_count ⟨⟨d, rfl, ht⟩, ?_⟩
    rintro r ⟨d', q, rfl⟩
    injection q with q _
    subst q
    have rz : okMany ws.length d = false → wB Y T' (gm0 (gam T)) [.raise "InvalidCount" [.v 1]] [some (rowD T.C_Row ws), some d] M (kBody Q E) := fun h => by
      refine wb_cons (ws_raise ⟨_, 1, _, ex_InvalidCount T C (by decide), ?_⟩)
      walk_at "w"
      exact ⟨rfl, he h⟩
    cases h : okCnt d with
    | false =>
      walk_at "w"
      refine k_TF ?_
      exact k_T (rz (okMany_f h))
    | true =>
      obtain ⟨i, rfl⟩ := okCnt_int h
      walk_at "w"
      refine k_FT ?_
      walk_at "w"
      refine ac_names T C ?_
      walk_at "w"
      have e : okMany ws.length (.int (i : Int)) = !decide (((D.strs ws).length : Int) < (i : Int)) := by
        rw [show (D.strs ws).length = ws.length from List.length_map _]
        show (decide (0 ≤ (i : Int)) && decide ((i : Int) ≤ (ws.length : Int))) = _
        rw [decide_eq_true (by omega : 0 ≤ (i : Int)), Bool.true_and, ← decide_not, decide_eq_decide]
        omega
      refine ⟨fun h1 => rz (by rw [e, h1]; rfl), fun h1 => ?_⟩
      walk_at "w"
      exact fz_q (hq (by rw [e, h1]; rfl))
theorem ox_want_position (T : Tx K mg) : FnX P w K mg base T' 3 T.a_Row_want_position T.d_Row_want_position ["self", "position"] (spWant K T.C_Row T.C_InvalidPosition "value" okSpot) :=
  fnX_of (Fun.toA T.f_Row_want_position) sc_Row_want_position (gl_ok T) ck_Row_want_position (fun ds M Q E ⟨_, _, q, _⟩ => by rw [q]; rfl) fun Y ds M Q E C hp => by
    obtain ⟨ws, d, rfl, ht, hq, he⟩ := hp
    show wB Y T' (gm0 (gam T)) ir_Row_want_position [some (rowD T.C_Row ws), some d] M _
    unfold ir_Row_want_position
    walk_at "w"
    refine cc_fn0 C (ox_is_count T) (by decide) T.b_is_count ⟨⟨d, rfl, ht⟩, ?_⟩
    rintro r ⟨d', q, rfl⟩
    injection q with q _
    subst q
    have rz : okSpot ws.length d = false → wB Y T' (gm0 (gam T)) [.raise "InvalidPosition" [.v 1]] [some (rowD T.C_Row ws), some d] M (kBody Q E) := fun h => by
      refine wb_cons (ws_raise ⟨_, 1, _, ex_InvalidPosition T C (by decide), ?_⟩)
      walk_at "w"
      exact ⟨rfl, he h⟩
    cases h : okCnt d with
    | false =>
      walk_at "w"
      refine k_TF ?_
      exact k_T (rz (okSpot_f h))
    | true =>
      obtain ⟨i, rfl⟩ := okCnt_int h
      walk_at "w"
      refine k_FT ?_
      walk_at "w"
      refine ac_names T C ?_
      walk_at "w"
      have e : okSpot ws.length (.int (i : Int)) = !decide (((D.strs ws).length : Int) ≤ (i : Int)) := by
        rw [show (D.strs ws).length = ws.length from List.length_map _]
        show (decide (0 ≤ (i : Int)) && decide ((i : Int) < (ws.length : Int))) = _
        rw [decide_eq_true (by omega : 0 ≤ (i : Int)), Bool.true_and, ← decide_not, decide_eq_decide]
        omega
      refine ⟨fun h1 => rz (by rw [e, h1]; rfl), fun h1 => ?_⟩
      walk_at "w"
      exact fz_q (hq (by rw [e, h1]; rfl))
/-- a row of a part: by the number i that is let, else the error -/
def spCut (K : PySem.W.Frag) (C CE : Addr) (ok : Nat → D → Bool) (g : List Str → Nat → List Str) : Wx.Spec := fun ds M Q E => ∃ ws d, ds = [rowD C ws, d] ∧ (∀ z ∈ ws, Nm z) ∧ ws.length ≤ 400 ∧ TyI K d ∧ (∀ i : Nat, d = .int (i : Int) → ok ws.length d = true → Q (rowD C (g ws i)) M) ∧ (ok ws.length d = false → E CE [("value", d)] M)
theorem okMany_int {n : Nat} {d : D} (h : okMany n d = true) : ∃ i : Nat, d = .int (i : Int) ∧ i ≤ n := by
  cases d with
  | int i =>
    obtain ⟨h1, h2⟩ := Bool.and_eq_true_iff.mp (show (decide (0 ≤ i) && decide (i ≤ (n : Int))) = true from h)
    have h1 := of_decide_eq_true h1
    have h2 := of_decide_eq_true h2
    exact ⟨i.toNat, by congr 1; omega, by omega⟩
  | _ => cases h
theorem okSpot_int {n : Nat} {d : D} (h : okSpot n d = true) : ∃ i : Nat, d = .int (i : Int) ∧ i < n := by
  cases d with
  | int i =>
    obtain ⟨h1, h2⟩ := Bool.and_eq_true_iff.mp (show (decide (0 ≤ i) && decide (i < (n : Int))) = true from h)
    have h1 := of_decide_eq_true h1
    have h2 := of_decide_eq_true h2
    exact ⟨i.toNat, by congr 1; omega, by omega⟩
  | _ => cases h
theorem ox_first (T : Tx K mg) : FnX P w K mg base T' 4 T.a_Row_first T.d_Row_first ["self", "many"] (spCut K T.C_Row T.C_InvalidCount okMany (fun ws i => ws.take i)) :=
  fnX_of (Fun.toA T.f_Row_first) sc_Row_first (gl_ok T) ck_Row_first (fun ds M Q E ⟨_, _, q, _⟩ => by rw [q]; rfl) fun Y ds M Q E C hp => by
    obtain ⟨ws, d, rfl, hws, hl, ht, hq, he⟩ := hp
    show wB Y T' (gm0 (gam T)) ir_Row_first [some (rowD T.C_Row ws), some d] M _
    unfold ir_Row_first
    walk_at "w"
    refine ⟨_, mt_row T C T.me_Row_want_many (by decide), ?_⟩
    walk_at "w"
    refine cc_fn0 C (ox_want_many T) (by decide) T.b_Row_want_many ⟨ws, d, rfl, ht, fun h => ?_, fun h => he h⟩
    obtain ⟨i, rfl, hi⟩ := okMany_int h
    walk_at "w"
    refine ac_names T C ?_
    walk_at "w"
    rw [cut_to ws (by omega)]
    exact cc_rowT T C (by decide) (fun z hz => hws z (List.mem_of_mem_take hz)) (by rw [List.length_take]; omega) (fz_q (hq i rfl h))
theorem ox_after (T : Tx K mg) : FnX P w K mg base T' 4 T.a_Row_after T.d_Row_after ["self", "many"] (spCut K T.C_Row T.C_InvalidCount okMany (fun ws i => ws.drop i)) :=
  fnX_of (Fun.toA T.f_Row_after) sc_Row_after (gl_ok T) ck_Row_after (fun ds M Q E ⟨_, _, q, _⟩ => by rw [q]; rfl) fun Y ds M Q E C hp => by
    obtain ⟨ws, d, rfl, hws, hl, ht, hq, he⟩ := hp
    show wB Y T' (gm0 (gam T)) ir_Row_after [some (rowD T.C_Row ws), some d] M _
    unfold ir_Row_after
    walk_at "w"
    refine ⟨_, mt_row T C T.me_Row_want_many (by decide), ?_⟩
    walk_at "w"
    refine cc_fn0 C (ox_want_many T) (by decide) T.b_Row_want_many ⟨ws, d, rfl, ht, fun h => ?_, fun h => he h⟩
    obtain ⟨i, rfl, hi⟩ := okMany_int h
    walk_at "w"
    refine ac_names T C ?_
    walk_at "w"
    rw [cut_from ws (by omega)]
    exact cc_rowT T C (by decide) (fun z hz => hws z (List.mem_of_mem_drop hz)) (by rw [List.length_drop]; omega) (fz_q (hq i rfl h))
theorem ox_without (T : Tx K mg) : FnX P w K mg base T' 4 T.a_Row_without T.d_Row_without ["self", "position"] (spCut K T.C_Row T.C_InvalidPosition okSpot (fun ws i => ws.take i ++ ws.drop (i + 1))) :=
  fnX_of (Fun.toA T.f_Row_without) sc_Row_without (gl_ok T) ck_Row_without (fun ds M Q E ⟨_, _, q, _⟩ => by rw [q]; rfl) fun Y ds M Q E C hp => by
    obtain ⟨ws, d, rfl, hws, hl, ht, hq, he⟩ := hp
    show wB Y T' (gm0 (gam T)) ir_Row_without [some (rowD T.C_Row ws), some d] M _
    unfold ir_Row_without
    walk_at "w"
    refine ⟨_, mt_row T C T.me_Row_want_position (by decide), ?_⟩
    walk_at "w"
    refine cc_fn0 C (ox_want_position T) (by decide) T.b_Row_want_position ⟨ws, d, rfl, ht, fun h => ?_, fun h => he h⟩
    obtain ⟨i, rfl, hi⟩ := okSpot_int h
    walk_at "w"
    refine ac_names T C ?_
    walk_at "w"
    refine ac_names T C ?_
    walk_at "w"
    rw [cut_to ws (by omega), cut_from ws (by omega)]
    refine oc_catT (by rw [show ∀ l : List Str, (D.strs l).length = l.length from fun l => List.length_map _, show ∀ l : List Str, (D.strs l).length = l.length from fun l => List.length_map _, List.length_take, List.length_drop]; exact big (by omega)) ?_
    rw [show D.strs (ws.take (i : Int).toNat) ++ D.strs (ws.drop ((i : Int) + 1).toNat) = D.strs (ws.take i ++ ws.drop (i + 1)) from by unfold D.strs; rw [List.map_append]; rfl]
    walk_at "w"
    refine cc_rowT T C (by decide) (fun z hz => ?_) (by rw [List.length_append, List.length_take, List.length_drop]; omega) (fz_q (hq i rfl h))
    rcases List.mem_append.mp hz with z1 | z1
    · exact hws z (List.mem_of_mem_take z1)
    · exact hws z (List.mem_of_mem_drop z1)
/-- two rows, one behind the other -/
def spJoin (C : Addr) : Wx.Spec := fun ds M Q E => ∃ ws us : List Str, ds = [rowD C ws, rowD C us] ∧ (∀ z ∈ ws, Nm z) ∧ (∀ z ∈ us, Nm z) ∧ ws.length + us.length ≤ 400 ∧ Q (rowD C (ws ++ us)) M
theorem ox_add (T : Tx K mg) : FnX P w K mg base T' 4 T.a_Row_add T.d_Row_add ["self", "other"] (spJoin T.C_Row) :=
  fnX_of (Fun.toA T.f_Row_add) sc_Row_add (gl_ok T) ck_Row_add (fun ds M Q E ⟨_, _, q, _⟩ => by rw [q]; rfl) fun Y ds M Q E C hp => by
    obtain ⟨ws, us, rfl, hws, hus, hl, hq⟩ := hp
    have l1 : ∀ l : List Str, (D.strs l).length = l.length := fun l => List.length_map _
    show wB Y T' (gm0 (gam T)) ir_Row_add [some (rowD T.C_Row ws), some (rowD T.C_Row us)] M _
    unfold ir_Row_add
    walk_at "w"
    refine ac_names T C ?_
    walk_at "w"
    refine ac_names T C ?_
    walk_at "w"
    refine cc_old C (ok_few T) (by decide) T.b_want_few_runs ⟨_, by rw [l1, l1]; omega, rfl⟩ fun d hd => ?_
    walk_at "w"
    refine ac_names T C ?_
    walk_at "w"
    refine ac_names T C ?_
    walk_at "w"
    refine oc_catT (by rw [l1, l1]; exact big (by omega)) ?_
    rw [show D.strs ws ++ D.strs us = D.strs (ws ++ us) from (List.map_append ..).symm]
    walk_at "w"
    refine cc_rowT T C (by decide) (fun z hz => ?_) (by rw [List.length_append]; omega) (fz_q hq)
    rcases List.mem_append.mp hz with z1 | z1
    · exact hws z z1
    · exact hus z z1
def spTurn (C : Addr) : Wx.Spec := fun ds M Q E => ∃ ws : List Str, ds = [rowD C ws] ∧ (∀ z ∈ ws, Nm z) ∧ ws.length ≤ 400 ∧ Q (rowD C ws.reverse) M
theorem ox_invert (T : Tx K mg) : FnX P w K mg base T' 4 T.a_Row_invert T.d_Row_invert ["self"] (spTurn T.C_Row) :=
  fnX_of (Fun.toA T.f_Row_invert) sc_Row_invert (gl_ok T) ck_Row_invert (fun ds M Q E ⟨_, q, _⟩ => by rw [q]; rfl) fun Y ds M Q E C hp => by
    obtain ⟨ws, rfl, hws, hl, hq⟩ := hp
    show wB Y T' (gm0 (gam T)) ir_Row_invert [some (rowD T.C_Row ws)] M _
    unfold ir_Row_invert
    refine wb_cons (ws_ret (we_cu (wa_cons (we_revT ?_))))
    walk_at "w"
    refine ac_names T C ⟨_, rfl, ?_⟩
    walk_at "w"
    rw [show (D.strs ws).reverse = D.strs ws.reverse from (List.map_reverse ..).symm]
    exact cc_rowT T C (by decide) (fun z hz => hws z (List.mem_reverse.mp hz)) (by rw [List.length_reverse]; exact hl) (fz_q hq)
end
end Fk
set_option Elab.async false
set_option linter.all false
set_option maxRecDepth 100000
set_option maxHeartbeats 4000000
/-! Wx: -i. -/
namespace Wx
open PySem L2 Fx PySem.Spec PyProof.Rows
section
variable {T : Tb} {Y : Co} {M : Mem} {Q : PD} {E : PX}
theorem uc_neg {i : Int} (q : Q (.int (-i)) M) : UC Y T (unaryOp .USub) (.int i) M Q E := fun X l hY hc pins s σ B H v vv I S rx rv Qv W tk kn kx => by
  cases Rp.int.mp rx
  exact un_neg pins s σ H _ vv Qv I rv ⟨i, rfl, kn _ (.int (-i)) M B H Go.refl S (Rp.int.mpr rfl) q⟩
theorem enumD_inv {ds : List D} {i : Nat} {x : D} (h : (enumD ds)[i]? = some x) : ∃ p, ds[i]? = some p ∧ x = .tup [.int (i : Nat), p] := by
  have hi : i < ds.length := by rw [← enumD_length ds]; exact (List.getElem?_eq_some_iff.mp h).1
  refine ⟨ds[i], List.getElem?_eq_getElem hi, ?_⟩
  rw [enumD_at (List.getElem?_eq_getElem hi)] at h
  exact (Option.some.inj h).symm
end
end Wx
namespace Wx
open PySem L2 Fx PySem.Spec PyProof.Rows
section
variable {T : Tb} {Y : Co} {M : Mem} {Q : PD} {E : PX}
theorem oc_pow {a b : Int} (h : CPow a b) (q : Q (.int (a ^ b.toNat)) M) : OC Y T (binaryOp .Pow) (.int a) (.int b) M Q E := oc_e (fun _ _ _ => od_pow h) q
theorem eqbs_strs : ∀ l : List Str, eqbs (D.strs l) = true
  | [] => by simp only [D.strs, List.map_nil, eqbs]
  | a :: r => by
    have := eqbs_strs r
    simp only [D.strs, List.map_cons, eqbs, eqb, Bool.true_and] at this ⊢
    exact this
theorem dpts_strs : ∀ l : List Str, dpts (D.strs l) ≤ 1
  | [] => by simp only [D.strs, List.map_nil, dpts]; omega
  | a :: r => by
    have := dpts_strs r
    simp only [D.strs, List.map_cons, dpts, dpt] at this ⊢
    omega
theorem at_tail {p a : Addr} {o : MO} (h : a ≠ p) : Mem.at ((p, o) :: M) a = M.at a := by
  unfold Mem.at
  rw [List.lookup_cons, show (a == p) = false from by simpa using h]
end
end Wx
namespace Wx
open PySem L2 Fx
theorem upTo_inv {n i : Nat} {x : D} (h : (Fx.upTo n)[i]? = some x) : i < n ∧ x = .int (i : Int) := by
  have hi : i < n := by
    have := (List.getElem?_eq_some_iff.mp h).1
    rwa [upTo_length] at this
  rw [upTo_at hi] at h
  exact ⟨hi, (Option.some.inj h).symm⟩
end Wx
namespace Wx
open PySem L2 Fx
theorem k_neF {α : Type} [DecidableEq α] {a b : α} {A B : Prop} (h : a = b) (q : B) : ((!decide (a = b)) = true → A) ∧ ((!decide (a = b)) = false → B) := by
  subst h
  exact ⟨fun z => by simp at z, fun _ => q⟩
end Wx
namespace Wx
open PySem L2 Fx PySem.Spec PyProof.Rows
section
variable {P : Program} {w : World} {K : PySem.W.Frag} {mg : Str → Option Value} {base : Heap} {T : Tb} {k : Nat} {Y : Co} {M : Mem} {Q : PD} {E : PX} {ws us : List Str}
theorem od_neTs {X : Cx} (hu : X.A.units + 64 < cLine) (h1 : ∀ w ∈ ws, PyData.strOk w = true) (h2 : ∀ w ∈ us, PyData.strOk w = true) : OD X (compareOp .NotEq) (.tup (D.strs ws)) (.tup (D.strs us)) (Eq (.bl (!decide (ws = us)))) := by
  have e1 : (D.tup (D.strs ws)).py = .tuple (ws.map PyData.str) := by simp only [D.py, pys_strs]
  have e2 : (D.tup (D.strs us)).py = .tuple (us.map PyData.str) := by simp only [D.py, pys_strs]
  have h := od_neD (X := X) (x := .tup (D.strs ws)) (y := .tup (D.strs us)) hu (by simp only [D.plain, plains_strs]) (by simp only [D.plain, plains_strs]) (by rw [e1]; exact (shaped_strs h1).2) (by rw [e2]; exact (shaped_strs h2).2)
  rwa [e1, e2, PyData.eqv, eqvAll_strs] at h
theorem oc_neTs (C : CoOk Y P w K mg base k) (h1 : ∀ w ∈ ws, PyData.strOk w = true) (h2 : ∀ w ∈ us, PyData.strOk w = true) (q : Q (.bl (!decide (ws = us))) M) : OC Y T (compareOp .NotEq) (.tup (D.strs ws)) (.tup (D.strs us)) M Q E := oc_e (fun X hY _ => od_neTs (by have := C.u64 hY; omega) h1 h2) q
end
end Wx
set_option Elab.async false
set_option linter.all false
set_option maxRecDepth 100000
set_option maxHeartbeats 4000000
local macro_rules | `(tactic| walk_at "w") => `(tactic| repeat (first
  | ((with_reducible show Wx.wE _ _ _ (Wx.IE.v _) _ _ _ _); refine Wx.we_v rfl ?_)
  | (with_reducible first | refine Wx.wa_cons ?_ | refine Wx.wa_nil ?_ | refine Wx.wb_cons ?_ | refine Wx.wb_nil ?_ | refine Wx.we_cmp ?_ | refine Wx.we_bin ?_ | refine Wx.we_int ?_ | refine Wx.we_str ?_ | refine Wx.we_bl ?_ | refine Wx.we_non ?_ | refine Wx.we_cu ?_ | refine Wx.we_cb ?_ | refine Wx.we_ct ?_ | refine Wx.we_cuk ?_ | refine Wx.we_lst ?_ | refine Wx.we_tup ?_ | refine Wx.we_ix ?_ | refine Wx.we_sl ?_ | refine Wx.we_rev ?_ | refine Wx.we_att ?_ | refine Wx.we_not ?_ | refine Wx.we_and ?_ | refine Wx.we_or ?_ | refine Wx.we_un ?_ | refine Wx.we_ite ?_ | refine Wx.we_cm2 ?_ | refine Wx.we_dic0 ?_ | refine Wx.we_mu ?_ | refine Wx.we_mb ?_ | refine Wx.we_isT ?_ | refine Wx.we_muk ?_ | refine Wx.we_olst ?_ | refine Wx.we_oli ?_ | refine Wx.we_odic ?_)
  | (with_reducible first | refine Wx.wo_nil ?_ | refine Wx.wo_some ?_ | refine Wx.wand_1 ?_ | refine Wx.wand_2 ?_ | refine Wx.wor_1 ?_ | refine Wx.wor_2 ?_ | refine Wx.wt_not ?_ | refine Wx.wt_and ?_ | refine Wx.wt_or ?_ | refine Wx.wt_cmp ?_ | refine Wx.wt_cm2 ?_ | refine Wx.wtand_1 ?_ | refine Wx.wtand_2 ?_ | refine Wx.wtor_1 ?_ | refine Wx.wtor_2 ?_ | refine Wx.wts_nil ?_ | refine Wx.wts_1 ?_ | refine Wx.ws_set ?_ | refine Wx.ws_ret ?_ | refine Wx.ws_ret0 ?_ | refine Wx.ws_unp ?_ | refine Wx.ws_par ?_ | refine Wx.ws_drop ?_ | refine Wx.ws_ife ?_ | refine Wx.ws_pass ?_ | refine Wx.ws_brk ?_ | refine Wx.ws_cont ?_ | refine Wx.wi_ra ?_ | refine Wx.wi_zi ?_)
  | (with_reducible first | refine Wx.k_bl ?_ | refine Wx.k_lst ?_ | refine Wx.k_tup ?_ | refine Wx.k_str ?_ | refine Wx.k_int ?_ | refine Wx.k_zip ?_)
  | (with_reducible first | refine Wx.pc_tup ?_)
  | ((with_reducible refine Wx.k_len ?wh ?_); (case wh => rfl))
  | ((with_reducible refine Wx.wt_val ?wh ?_); (case wh => rfl))
  | (with_reducible first | refine Wx.oc_add ?_ | refine Wx.oc_sub ?_ | refine Wx.oc_lt ?_ | refine Wx.oc_le ?_ | refine Wx.oc_gt ?_ | refine Wx.oc_ge ?_ | refine Wx.oc_eqI ?_ | refine Wx.oc_neI ?_ | refine Wx.oc_eqT ?_ | refine Wx.oc_neT ?_ | refine Wx.oc_eqB ?_ | refine Wx.oc_neB ?_ | refine Wx.oc_isB ?_ | refine Wx.oc_notB ?_ | refine Wx.cc_lenL ?_ | refine Wx.cc_lenT ?_ | refine Wx.cc_listL ?_ | refine Wx.cc_listT ?_ | refine Wx.cc_tupL ?_ | refine Wx.cc_tupT ?_ | refine Wx.cc_int ?_ | refine Wx.cc_intB ?_ | refine Wx.cc_max ?_ | refine Wx.cc_min ?_ | refine Wx.cc_abs ?_ | refine Wx.pc_l ?_ | refine Wx.cc_all ?_ | refine Wx.cc_any ?_)))
/-! Law k13: Row.kept. -/
namespace Fk
open PySem L2 Fx Wx
def okAt (n : Nat) (last : Int) : D → Bool
  | .int i => decide (last < i) && decide (i < (n : Int)) | _ => false
def numD : D → Int
  | .int i => i | _ => 0
/-- the first wrong one -/
def wrongF (n : Nat) : Int → List D → Option Nat
  | _, [] => none
  | last, d :: r => if okAt n last d = true then (wrongF n (numD d) r).map (· + 1) else some 0
/-- the names there -/
def keptW (ws : List Str) (ps : List D) : List Str := ps.map fun p => ws.getD (numD p).toNat ""
theorem okAt_int {n : Nat} {last : Int} {d : D} (h : okAt n last d = true) : ∃ i : Int, d = .int i ∧ last < i ∧ i < n := by
  cases d with
  | int i =>
    obtain ⟨h1, h2⟩ := Bool.and_eq_true_iff.mp (show (decide (last < i) && decide (i < (n : Int))) = true from h)
    exact ⟨i, rfl, of_decide_eq_true h1, of_decide_eq_true h2⟩
  | _ => cases h
theorem wrongF_none {n : Nat} : ∀ {last : Int} {ps : List D}, -1 ≤ last → wrongF n last ps = none → (∀ p ∈ ps, ∃ i : Nat, p = .int (i : Int) ∧ i < n) ∧ (ps.length : Int) ≤ n - (last + 1) ∨ ((ps.length : Int) = 0)
  | last, [], _, _ => .inr rfl
  | last, d :: r, h0, h => by
    unfold wrongF at h
    split at h
    · rename_i ho
      obtain ⟨i, rfl, h1, h2⟩ := okAt_int ho
      have h3 : wrongF n i r = none := by simpa [numD] using h
      have one : ∃ j : Nat, D.int i = .int (j : Int) ∧ j < n := ⟨i.toNat, by congr 1; omega, by omega⟩
      rcases wrongF_none (by omega) h3 with ⟨q1, q2⟩ | q
      · refine .inl ⟨fun p hp => ?_, by simp only [List.length_cons]; omega⟩
        rcases List.mem_cons.mp hp with e | e
        · rw [e]; exact one
        · exact q1 p e
      · have e : r = [] := List.length_eq_zero_iff.mp (by omega)
        subst e
        refine .inl ⟨fun p hp => ?_, by simp only [List.length_cons, List.length_nil]; omega⟩
        rw [List.mem_singleton.mp hp]; exact one
    · cases h
theorem wrongF_all {n : Nat} {ps : List D} (h : wrongF n (-1) ps = none) : (∀ p ∈ ps, ∃ i : Nat, p = .int (i : Int) ∧ i < n) ∧ ps.length ≤ n := by
  rcases wrongF_none (by decide) h with ⟨q1, q2⟩ | q
  · exact ⟨q1, by omega⟩
  · have e : ps = [] := List.length_eq_zero_iff.mp (by omega)
    subst e
    exact ⟨(fun _ z => nomatch z), Nat.zero_le _⟩
section
variable {P : Program} {w : World} {K : PySem.W.Frag} {mg : Str → Option Value} {base : Heap} {T' : Tb}
/-- the runs at rising places; else the error -/
def spKept (K : PySem.W.Frag) (C CE : Addr) : Wx.Spec := fun ds M Q E => ∃ ws d, ds = [rowD C ws, d] ∧ (∀ z ∈ ws, Nm z) ∧ ws.length ≤ 400 ∧ TyL K d ∧
  ((isLs d = false ∧ E CE [("position", .non)] M) ∨
   ∃ ps, (d = .lst ps ∨ d = .tup ps) ∧ ps.length ≤ sizeLine ∧ (∀ p ∈ ps, TyI K p) ∧ (wrongF ws.length (-1) ps = none → Q (rowD C (keptW ws ps)) M) ∧ (∀ j : Nat, wrongF ws.length (-1) ps = some j → E CE [("position", .int (j : Int))] M))
theorem keptW_ok {ws : List Str} {ps : List D} (hws : ∀ z ∈ ws, Nm z) (h : ∀ p ∈ ps, ∃ i : Nat, p = .int (i : Int) ∧ i < ws.length) : ∀ z ∈ keptW ws ps, Nm z := fun z hz => by
  obtain ⟨p, hp, rfl⟩ := List.mem_map.mp hz
  obtain ⟨i, rfl, hi⟩ := h p hp
  refine hws _ ?_
  show ws.getD (i : Int).toNat "" ∈ ws
  rw [Int.toNat_natCast, List.getD_eq_getElem?_getD, List.getElem?_eq_getElem hi]
  exact List.getElem_mem hi
theorem ox_kept (T : Tx K mg) : FnX P w K mg base T' 4 T.a_Row_kept T.d_Row_kept ["self", "positions"] (spKept K T.C_Row T.C_InvalidPositions) :=
  fnX_of (Fun.toA T.f_Row_kept) sc_Row_kept (gl_ok T) ck_Row_kept (fun ds M Q E ⟨_, _, q, _⟩ => by rw [q]; rfl) fun Y ds M Q E C hp => by
    obtain ⟨ws, d, rfl, hws, hl, ht, hcase⟩ := hp
    show wB Y T' (gm0 (gam T)) ir_Row_kept [some (rowD T.C_Row ws), some d, none, none, none] M _
    unfold ir_Row_kept
    walk_at "w"
    refine cc_fn0 C (cc_is_list T) (by decide) T.b_is_list ⟨⟨d, rfl, ht⟩, ?_⟩
    rintro r ⟨d', q, rfl⟩
    injection q with q _
    subst q
    rcases hcase with ⟨h, he⟩ | ⟨ps, hd, hpl, hty, hq, he⟩
    · rw [h]
      walk_at "w"
      refine k_T ?_
      refine wb_cons (ws_raise ⟨_, 1, _, ex_InvalidPositions T C (by decide), ?_⟩)
      walk_at "w"
      exact ⟨rfl, he⟩
    · have e1 : isLs d = true := by rcases hd with rfl | rfl <;> rfl
      rw [e1]
      walk_at "w"
      refine k_F ?_
      walk_at "w"
      refine uc_neg ?_
      have wi : ∀ {l : Sl} {R : List D → Mem → Prop} {E'}, l[1]? = some (some d) → R (enumD ps) M → wI Y T' (gm0 (gam T)) (.en (.v 1)) l M R E' := by
        rcases hd with rfl | rfl
        · exact fun h q => wi_enL (we_v h (k_lst q))
        · exact fun h q => wi_enT (we_v h (k_tup q))
      have wl : ∀ {l : Sl} {R : List D → Mem → Prop} {E'}, l[1]? = some (some d) → R ps M → wI Y T' (gm0 (gam T)) (.li (.v 1)) l M R E' := by
        rcases hd with rfl | rfl
        · exact fun h q => wi_l (we_v h (k_lst q))
        · exact fun h q => wi_t (we_v h (k_tup q))
      refine wb_cons (ws_for (wi rfl ?_))
      refine ⟨fun i l1 M1 => M1 = M ∧ ∃ (last : Int) (a b : Option D), l1 = [some (rowD T.C_Row ws), some d, some (.int last), a, b] ∧ -1 ≤ last ∧ wrongF ws.length (-1) ps = (wrongF ws.length last (ps.drop i)).map (· + i), ⟨rfl, -1, none, none, rfl, by decide, by simp⟩, ?_, ?_⟩
      · rintro i x l1 M2 hx ⟨rfl, last, a, b, rfl, hlast, hw⟩
        obtain ⟨p, hp, rfl⟩ : ∃ p, ps[i]? = some p ∧ x = .tup [.int (i : Int), p] := enumD_inv hx
        have hip : i < ps.length := (List.getElem?_eq_some_iff.mp hp).1
        have hdrop : ps.drop i = p :: ps.drop (i + 1) := by
          rw [List.drop_eq_getElem_cons hip]
          rw [List.getElem?_eq_getElem hip] at hp
          rw [Option.some.inj hp]
        have htp := hty p (List.mem_of_getElem? hp)
        have rz : okAt ws.length last p = false → ∀ {k : Kt}, k.ex = (kBody Q E).ex → wB Y T' (gm0 (gam T)) [.raise "InvalidPositions" [.v 3]] [some (rowD T.C_Row ws), some d, some (.int last), some (.int (i : Int)), some p] M2 k := fun h k hk => by
          refine wb_cons (ws_raise ⟨_, 1, _, ex_InvalidPositions T C (by decide), ?_⟩)
          walk_at "w"
          refine ⟨rfl, ?_⟩
          rw [show k.ex = (kBody Q E).ex from hk]
          refine he i ?_
          rw [hw, hdrop, wrongF, if_neg (by rw [h]; decide)]
          simp
        refine ⟨[.int (i : Int), p], rfl, ?_⟩
        walk_at "w"
        refine cc_fn0 C (ox_is_count T) (by decide) T.b_is_count ⟨⟨p, rfl, htp⟩, ?_⟩
        rintro r ⟨d', q, rfl⟩
        injection q with q _
        subst q
        cases h : okCnt p with
        | false =>
          walk_at "w"
          refine k_TF ?_
          refine k_T (rz ?_ rfl)
          cases p with
          | int j =>
            have h1 : ¬ (0 ≤ j) := of_decide_eq_false h
            show (decide (last < j) && _) = false
            rw [decide_eq_false (by omega)]; rfl
          | _ => rfl
        | true =>
          obtain ⟨j, rfl⟩ := okCnt_int h
          walk_at "w"
          refine k_FT ?_
          walk_at "w"
          have e : okAt ws.length last (.int (j : Int)) = (decide (last < (j : Int)) && decide ((j : Int) < (ws.length : Int))) := rfl
          refine ⟨fun h1 => ?_, fun h1 => ?_⟩
          · walk_at "w"
            refine k_T (rz ?_ rfl)
            rw [e, h1]; rfl
          · walk_at "w"
            refine ac_names T C ?_
            walk_at "w"
            rw [show (D.strs ws).length = ws.length from List.length_map _]
            refine ⟨fun h2 => rz ?_ rfl, fun h2 => ?_⟩
            · rw [e, h1, Bool.true_and]
              simpa using h2
            · walk_at "w"
              refine ⟨rfl, (j : Int), _, _, rfl, by omega, ?_⟩
              rw [hw, hdrop, wrongF, if_pos (by rw [e, h1, Bool.true_and]; simpa using h2)]
              show Option.map (· + i) (Option.map (· + 1) (wrongF ws.length (j : Int) (ps.drop (i + 1)))) = _
              rw [Option.map_map]
              congr 1
              funext m
              show m + 1 + i = m + (i + 1)
              omega
      · rintro l1 M2 ⟨rfl, last, a, b, rfl, hlast, hw⟩
        rw [enumD_length, List.drop_length] at hw
        have hn : wrongF ws.length (-1) ps = none := by rw [hw]; rfl
        obtain ⟨hall, hlen⟩ := wrongF_all hn
        refine wb_cons (ws_ret (we_cu (wa_cons (we_lc (wl rfl ⟨hpl, ?_⟩)))))
        refine k_map (fun p => .str (ws.getD (numD p).toNat "")) (fun p hp => ⟨[p], rfl, ?_⟩) ?_
        · obtain ⟨j, rfl, hj⟩ := hall p hp
          walk_at "w"
          refine ac_names T C ?_
          walk_at "w"
          refine xc_tup (Fx.atI_nat (d := .str (ws.getD j "")) ?_) ⟨rfl, rfl⟩
          show (ws.map D.str)[j]? = _
          rw [List.getElem?_map, List.getElem?_eq_getElem hj, List.getD_eq_getElem?_getD, List.getElem?_eq_getElem hj]
          rfl
        · walk_at "w"
          rw [show (ps.map fun p => D.str (ws.getD (numD p).toNat "")) = D.strs (keptW ws ps) from by unfold D.strs keptW; rw [List.map_map]; rfl]
          exact cc_row T C (by decide) (keptW_ok hws hall) (by unfold keptW; rw [List.length_map]; omega) (fz_q (hq hn))
end
end Fk
set_option Elab.async false
set_option linter.all false
set_option maxRecDepth 100000
set_option maxHeartbeats 4000000
local macro_rules | `(tactic| walk_at "w") => `(tactic| repeat (first
  | ((with_reducible show Wx.wE _ _ _ (Wx.IE.v _) _ _ _ _); refine Wx.we_v rfl ?_)
  | (with_reducible first | refine Wx.wa_cons ?_ | refine Wx.wa_nil ?_ | refine Wx.wb_cons ?_ | refine Wx.wb_nil ?_ | refine Wx.we_cmp ?_ | refine Wx.we_bin ?_ | refine Wx.we_int ?_ | refine Wx.we_str ?_ | refine Wx.we_bl ?_ | refine Wx.we_non ?_ | refine Wx.we_cu ?_ | refine Wx.we_cb ?_ | refine Wx.we_ct ?_ | refine Wx.we_cuk ?_ | refine Wx.we_lst ?_ | refine Wx.we_tup ?_ | refine Wx.we_ix ?_ | refine Wx.we_sl ?_ | refine Wx.we_rev ?_ | refine Wx.we_att ?_ | refine Wx.we_not ?_ | refine Wx.we_and ?_ | refine Wx.we_or ?_ | refine Wx.we_un ?_ | refine Wx.we_ite ?_ | refine Wx.we_cm2 ?_ | refine Wx.we_dic0 ?_ | refine Wx.we_mu ?_ | refine Wx.we_mb ?_ | refine Wx.we_isT ?_ | refine Wx.we_muk ?_ | refine Wx.we_olst ?_ | refine Wx.we_oli ?_ | refine Wx.we_odic ?_)
  | (with_reducible first | refine Wx.wo_nil ?_ | refine Wx.wo_some ?_ | refine Wx.wand_1 ?_ | refine Wx.wand_2 ?_ | refine Wx.wor_1 ?_ | refine Wx.wor_2 ?_ | refine Wx.wt_not ?_ | refine Wx.wt_and ?_ | refine Wx.wt_or ?_ | refine Wx.wt_cmp ?_ | refine Wx.wt_cm2 ?_ | refine Wx.wtand_1 ?_ | refine Wx.wtand_2 ?_ | refine Wx.wtor_1 ?_ | refine Wx.wtor_2 ?_ | refine Wx.wts_nil ?_ | refine Wx.wts_1 ?_ | refine Wx.ws_set ?_ | refine Wx.ws_ret ?_ | refine Wx.ws_ret0 ?_ | refine Wx.ws_unp ?_ | refine Wx.ws_par ?_ | refine Wx.ws_drop ?_ | refine Wx.ws_ife ?_ | refine Wx.ws_pass ?_ | refine Wx.ws_brk ?_ | refine Wx.ws_cont ?_ | refine Wx.wi_ra ?_ | refine Wx.wi_zi ?_)
  | (with_reducible first | refine Wx.k_bl ?_ | refine Wx.k_lst ?_ | refine Wx.k_tup ?_ | refine Wx.k_str ?_ | refine Wx.k_int ?_ | refine Wx.k_zip ?_)
  | (with_reducible first | refine Wx.pc_tup ?_)
  | ((with_reducible refine Wx.k_len ?wh ?_); (case wh => rfl))
  | ((with_reducible refine Wx.wt_val ?wh ?_); (case wh => rfl))
  | (with_reducible first | refine Wx.oc_add ?_ | refine Wx.oc_sub ?_ | refine Wx.oc_lt ?_ | refine Wx.oc_le ?_ | refine Wx.oc_gt ?_ | refine Wx.oc_ge ?_ | refine Wx.oc_eqI ?_ | refine Wx.oc_neI ?_ | refine Wx.oc_eqT ?_ | refine Wx.oc_neT ?_ | refine Wx.oc_eqB ?_ | refine Wx.oc_neB ?_ | refine Wx.oc_isB ?_ | refine Wx.oc_notB ?_ | refine Wx.cc_lenL ?_ | refine Wx.cc_lenT ?_ | refine Wx.cc_listL ?_ | refine Wx.cc_listT ?_ | refine Wx.cc_tupL ?_ | refine Wx.cc_tupT ?_ | refine Wx.cc_int ?_ | refine Wx.cc_intB ?_ | refine Wx.cc_max ?_ | refine Wx.cc_min ?_ | refine Wx.cc_abs ?_ | refine Wx.pc_l ?_ | refine Wx.cc_all ?_ | refine Wx.cc_any ?_)))
/-! Law k13: _law_told. -/
namespace Fk
open PySem L2 Fx Wx
abbrev lamQ (x : Str) : Str := x ++ ".<locals>." ++ "<lambda>"
section
variable {P : Program} {w : World} {K : PySem.W.Frag} {mg : Str → Option Value} {base : Heap}
/-- the tables of the defs that make lambdas -/
def tbl (T : Tx K mg) : Tb := [(T.P_l_counts_right, lamQ "_law_counts_right"), (T.P_l_kept_right, lamQ "_law_kept_right"), (T.P_l_no_lists_right, lamQ "_law_no_lists_right")]
/-- what a told call comes to -/
inductive Out where
  | row (ws : List Str) | cnt (d : D) | pos (d : D)
def resD : Out → D
  | .row ws => .lst [.str "row", .tup (D.strs ws)]
  | .cnt d => .lst [.str "count", d, .bl true]
  | .pos d => .lst [.str "positions", d, .bl true]
def outOk : Out → Prop
  | .row ws => (∀ z ∈ ws, Nm z) ∧ ws.length ≤ 400
  | _ => True
def outQ (T : Tx K mg) (o : Out) (Q : PD) (E : PX) (M : Mem) : Prop := match o with
  | .row ws => Q (rowD T.C_Row ws) M
  | .cnt d => E T.C_InvalidCount [("value", d)] M
  | .pos d => E T.C_InvalidPositions [("position", d)] M
abbrev toldTs (P : Program) (w : World) (base : Heap) (T : Tx K mg) : Wx.TS := tsOf P w K mg base (tbl T) 5 4 (gam T) ir_l_told
theorem told_ok (T : Tx K mg) : ToldOk P w K mg base (tbl T) 6 4 (.ref T.a_l_told) (toldTs P w base T) :=
  told_of (k := 4) (Fun.toA T.f_l_told) sc_l_told T.b_l_told (gl_ok T) ck_l_told
theorem told_is (T : Tx K mg) {LC : Mem → PD → PX → Prop} {p : Addr} {M : Mem} {Q : PD} {E : PX} (o : Out) (ho : outOk o) (hlc : ∀ Q0 E0, outQ T o Q0 E0 M → LC M Q0 E0) (q : Q (resD o) M) : toldTs P w base T LC p M Q E := by
  intro Y o' C hp
  show wB Y (tbl T) _ ir_l_told [some (.ref p), none, none, none] M _
  unfold ir_l_told
  walk_at "w"
  refine wb_cons (ws_try [.ref T.C_InvalidCount, .ref T.C_InvalidPositions] (.cons ⟨_, .inl ⟨_, by rw [C.mg]; exact T.er_InvalidCount.m, rfl, rfl⟩⟩ (.cons ⟨_, .inl ⟨_, by rw [C.mg]; exact T.er_InvalidPositions.m, rfl, rfl⟩⟩ .nil)) ?_)
  walk_at "w"
  refine we_act rfl ⟨rfl, hp, hlc _ _ ?_⟩
  cases o with
  | row ws =>
    refine ac_nm T C (by decide) ho.1 ho.2 ?_
    walk_at "w"
    exact fz_q q
  | cnt d =>
    refine ⟨true, by rw [C.K]; exact T.xm_InvalidCount_InvalidCount, fun _ x => ?_, fun z => nomatch z⟩
    unfold wG wH wH
    refine ⟨rfl, by rw [C.K]; exact T.xc_InvalidCount, [(.ref T.C_InvalidPosition, .ref T.C_InvalidPosition), (.ref T.C_InvalidPositions, .ref T.C_InvalidPositions)], false, .cons (.inl ⟨_, by rw [C.mg]; exact T.er_InvalidPosition.m, rfl, rfl⟩) (.cons (.inl ⟨_, by rw [C.mg]; exact T.er_InvalidPositions.m, rfl, rfl⟩) .nil), by exact (by decide : 2 ≤ sizeLine), by rw [C.K]; exact T.ka_InvalidCount_0, false, rfl, ?_⟩
    unfold wG wH wHl wH wHl wH wHl wH wHa wH
    refine ⟨rfl, by rw [C.K]; exact T.xf_InvalidCount, by rw [C.K]; exact T.er_InvalidCount.n, d, rfl, rfl, by rw [C.K]; exact T.xc_InvalidCount, _, _, true, .inl ⟨_, by rw [C.mg]; exact T.m_FixError, rfl, rfl⟩, by rw [C.K]; exact T.ko_InvalidCount_FixError, true, rfl, fun _ => ?_, fun z => nomatch z⟩
    unfold wHa wH
    refine ⟨_, rfl, ?_⟩
    unfold wHl
    refine ⟨by exact (by decide : 3 ≤ sizeLine), ?_⟩
    unfold wG
    walk_at "w"
    exact fz_q q
  | pos d =>
    refine ⟨false, by rw [C.K]; exact T.xm_InvalidPositions_InvalidCount, (fun z => nomatch z), fun _ => ?_⟩
    refine ⟨true, by rw [C.K]; exact T.xm_InvalidPositions_InvalidPositions, fun _ x => ?_, fun z => nomatch z⟩
    unfold wG wH wH
    refine ⟨rfl, by rw [C.K]; exact T.xc_InvalidPositions, [(.ref T.C_InvalidPosition, .ref T.C_InvalidPosition), (.ref T.C_InvalidCount, .ref T.C_InvalidCount)], false, .cons (.inl ⟨_, by rw [C.mg]; exact T.er_InvalidPosition.m, rfl, rfl⟩) (.cons (.inl ⟨_, by rw [C.mg]; exact T.er_InvalidCount.m, rfl, rfl⟩) .nil), by exact (by decide : 2 ≤ sizeLine), by rw [C.K]; exact T.ka_InvalidPositions_1, false, rfl, ?_⟩
    unfold wG wH wHl wH wHl wH wHl wH wHa wH
    refine ⟨rfl, by rw [C.K]; exact T.xf_InvalidPositions, by rw [C.K]; exact T.er_InvalidPositions.n, d, rfl, rfl, by rw [C.K]; exact T.xc_InvalidPositions, _, _, true, .inl ⟨_, by rw [C.mg]; exact T.m_FixError, rfl, rfl⟩, by rw [C.K]; exact T.ko_InvalidPositions_FixError, true, rfl, fun _ => ?_, fun z => nomatch z⟩
    unfold wHa wH
    refine ⟨_, rfl, ?_⟩
    unfold wHl
    refine ⟨by exact (by decide : 3 ≤ sizeLine), ?_⟩
    unfold wG
    walk_at "w"
    exact fz_q q
end
end Fk
set_option Elab.async false
set_option linter.all false
set_option maxRecDepth 100000
set_option maxHeartbeats 4000000
local macro_rules | `(tactic| walk_at "w") => `(tactic| repeat (first
  | ((with_reducible show Wx.wE _ _ _ (Wx.IE.v _) _ _ _ _); refine Wx.we_v rfl ?_)
  | (with_reducible first | refine Wx.wa_cons ?_ | refine Wx.wa_nil ?_ | refine Wx.wb_cons ?_ | refine Wx.wb_nil ?_ | refine Wx.we_cmp ?_ | refine Wx.we_bin ?_ | refine Wx.we_int ?_ | refine Wx.we_str ?_ | refine Wx.we_bl ?_ | refine Wx.we_non ?_ | refine Wx.we_cu ?_ | refine Wx.we_cb ?_ | refine Wx.we_ct ?_ | refine Wx.we_cuk ?_ | refine Wx.we_lst ?_ | refine Wx.we_tup ?_ | refine Wx.we_ix ?_ | refine Wx.we_sl ?_ | refine Wx.we_rev ?_ | refine Wx.we_att ?_ | refine Wx.we_not ?_ | refine Wx.we_and ?_ | refine Wx.we_or ?_ | refine Wx.we_un ?_ | refine Wx.we_ite ?_ | refine Wx.we_cm2 ?_ | refine Wx.we_dic0 ?_ | refine Wx.we_mu ?_ | refine Wx.we_mb ?_ | refine Wx.we_isT ?_ | refine Wx.we_muk ?_ | refine Wx.we_olst ?_ | refine Wx.we_oli ?_ | refine Wx.we_odic ?_)
  | (with_reducible first | refine Wx.wo_nil ?_ | refine Wx.wo_some ?_ | refine Wx.wand_1 ?_ | refine Wx.wand_2 ?_ | refine Wx.wor_1 ?_ | refine Wx.wor_2 ?_ | refine Wx.wt_not ?_ | refine Wx.wt_and ?_ | refine Wx.wt_or ?_ | refine Wx.wt_cmp ?_ | refine Wx.wt_cm2 ?_ | refine Wx.wtand_1 ?_ | refine Wx.wtand_2 ?_ | refine Wx.wtor_1 ?_ | refine Wx.wtor_2 ?_ | refine Wx.wts_nil ?_ | refine Wx.wts_1 ?_ | refine Wx.ws_set ?_ | refine Wx.ws_ret ?_ | refine Wx.ws_ret0 ?_ | refine Wx.ws_unp ?_ | refine Wx.ws_par ?_ | refine Wx.ws_drop ?_ | refine Wx.ws_ife ?_ | refine Wx.ws_pass ?_ | refine Wx.ws_brk ?_ | refine Wx.ws_cont ?_ | refine Wx.wi_ra ?_ | refine Wx.wi_zi ?_)
  | (with_reducible first | refine Wx.k_bl ?_ | refine Wx.k_lst ?_ | refine Wx.k_tup ?_ | refine Wx.k_str ?_ | refine Wx.k_int ?_ | refine Wx.k_zip ?_)
  | (with_reducible first | refine Wx.pc_tup ?_)
  | ((with_reducible refine Wx.k_len ?wh ?_); (case wh => rfl))
  | ((with_reducible refine Wx.wt_val ?wh ?_); (case wh => rfl))
  | (with_reducible first | refine Wx.oc_add ?_ | refine Wx.oc_sub ?_ | refine Wx.oc_lt ?_ | refine Wx.oc_le ?_ | refine Wx.oc_gt ?_ | refine Wx.oc_ge ?_ | refine Wx.oc_eqI ?_ | refine Wx.oc_neI ?_ | refine Wx.oc_eqT ?_ | refine Wx.oc_neT ?_ | refine Wx.oc_eqB ?_ | refine Wx.oc_neB ?_ | refine Wx.oc_isB ?_ | refine Wx.oc_notB ?_ | refine Wx.cc_lenL ?_ | refine Wx.cc_lenT ?_ | refine Wx.cc_listL ?_ | refine Wx.cc_listT ?_ | refine Wx.cc_tupL ?_ | refine Wx.cc_tupT ?_ | refine Wx.cc_int ?_ | refine Wx.cc_intB ?_ | refine Wx.cc_max ?_ | refine Wx.cc_min ?_ | refine Wx.cc_abs ?_ | refine Wx.pc_l ?_ | refine Wx.cc_all ?_ | refine Wx.cc_any ?_)))
/-! Law k13: the defs that make lambdas, one. -/
namespace Fk
open PySem L2 Fx Wx
section
variable {P : Program} {w : World} {K : PySem.W.Frag} {mg : Str → Option Value} {base : Heap}
/-- .. of this law's names -/
def toldG (P : Program) (w : World) (base : Heap) (T : Tx K mg) : Nat → Wx.TS := fun i => if i = 9 then toldTs P w base T else fun _ _ _ _ _ => False
theorem told_all (T : Tx K mg) : ∀ i y, usN[i]? = some y → (∀ LC p M Q E, ¬ toldG P w base T i LC p M Q E) ∨ ToldOk P w K mg base (tbl T) 6 4 (gam T i) (toldG P w base T i) := fun i y h => by
  by_cases e : i = 9
  · subst e
    right
    unfold toldG
    rw [if_pos rfl]
    exact told_ok T
  · left
    intro LC p M Q E z
    unfold toldG at z
    rw [if_neg e] at z
    exact z
/-- the tables are at hand, each is another one -/
structure Tbs (T : Tx K mg) (base : Heap) : Prop where
  t1 : LamX.TabB base mg T.cd_l_counts_right T.P_l_counts_right
  t2 : LamX.TabB base mg T.cd_l_kept_right T.P_l_kept_right
  t3 : LamX.TabB base mg T.cd_l_no_lists_right T.P_l_no_lists_right
  nd : [T.P_l_counts_right, T.P_l_kept_right, T.P_l_no_lists_right].Nodup
/-- a def's gm -/
abbrev gmT (P : Program) (w : World) (base : Heap) (T : Tx K mg) (me : Me) : Gm := gmL (gam T) me (toldG P w base T) (lcOf P w K mg base (tbl T) 4 (gam T))
/-- told(lambda: b), by what comes of it -/
theorem told_lam (T : Tx K mg) {Y : Co} {me : Me} {b : IE} {l : Sl} {M : Mem} {Q : PD} {E : PX} (o : Out) (ho : outOk o) (hlc : ∀ (Y : Co) (M' : Mem) Q0 E0, CoOk Y P w K mg base 4 → outQ T o Q0 E0 M' → wE Y (tbl T) (gm0 (gam T)) b l M' Q0 E0) (q : Q (resD o) M) :
    wE Y (tbl T) (gmT P w base T me) (.pr (.told "_law_told" 9) [.lam b]) l M Q E :=
  we_told trivial fun p hp σ => by
    show toldG P w base T 9 _ p _ _ E
    unfold toldG
    rw [if_pos rfl]
    exact told_is T o ho (fun Q0 E0 z Y C => hlc Y _ Q0 E0 C z) ⟨M, List.sublist_cons_self _ _, q⟩
/-- a value that is no number of runs -/
def oddC (n m : Int) : List D := [.non, .bl true, .bl false, .int (-1), .int (n + 1), .int (n + 1 + m), .str "0", .str "", .tup [.int 0], .lst [.int 0], .dic []]
theorem oddC_ok {K : PySem.W.Frag} {n : Nat} {m : Nat} : ∀ d ∈ oddC (n : Int) (m : Int), TyI K d ∧ okMany n d = false ∧ Wx.eqb d = true ∧ dpt d ≤ 3 := by
  intro d hd
  unfold oddC at hd
  simp only [List.mem_cons, List.not_mem_nil, or_false] at hd
  have ni : ∀ i : Int, (i < 0 ∨ (n : Int) < i) → okMany n (.int i) = false := fun i h => by
    show (decide (0 ≤ i) && decide (i ≤ (n : Int))) = false
    rw [Bool.and_eq_false_iff, decide_eq_false_iff_not, decide_eq_false_iff_not]
    omega
  rcases hd with rfl | rfl | rfl | rfl | rfl | rfl | rfl | rfl | rfl | rfl | rfl <;> refine ⟨tyI rfl, ?_, by simp [Wx.eqb, eqbs, eqbk], by simp [dpt, dpts, dptk]⟩ <;> first | rfl | exact ni _ (by omega)
def cntD (d : D) : D := .lst [.str "count", d, .bl true]
theorem ox_counts_right (T : Tx K mg) (B : Tbs T base) : FnX P w K mg base (tbl T) 7 T.a_l_counts_right T.d_l_counts_right ["_law_pot_here", "_law_made", "_law_word"] (fun ds M Q E => ∃ ws : List Str, ds = [.pot, rowD T.C_Row ws, .lst (D.strs ws)] ∧ (∀ z ∈ ws, Nm z) ∧ ws.length ≤ 12 ∧ Q (.bl true) M) :=
  fnL_of (told := toldG P w base T) (kt := 6) (kl := 4) (Fun.toA T.f_l_counts_right) sc_l_counts_right (gl_ok T) ck_l_counts_right (fun ds M Q E ⟨_, q, _⟩ => by rw [q]; rfl)
    B.t1 T.co_l_counts_right (by unfold tbl; exact List.mem_cons_self) (fun p hp e => by
      have nd := B.nd
      simp only [List.nodup_cons, List.mem_cons, List.not_mem_nil, or_false, not_or] at nd
      unfold tbl at hp
      simp only [List.mem_cons, List.not_mem_nil, or_false] at hp
      rcases hp with rfl | rfl | rfl
      · rfl
      · exact absurd e.symm nd.1.1
      · exact absurd e.symm nd.1.2) (told_all T) (by decide) fun Y me ds M Q E C hp => by
    obtain ⟨ws, rfl, hws, hl, hq⟩ := hp
    have l1 : (D.strs ws).length = ws.length := List.length_map _
    show wB Y (tbl T) (gmT P w base T me) ir_l_counts_right [some .pot, some (rowD T.C_Row ws), some (.lst (D.strs ws)), none, none, none, none] M _
    unfold ir_l_counts_right
    walk_at "w"
    refine uc_neg ?_
    walk_at "w"
    refine oc_pow ⟨by decide, by decide, by decide⟩ ?_
    walk_at "w"
    refine cc_draw T C (by decide) (by decide) (by decide) fun m hm => ?_
    walk_at "w"
    rw [l1]
    refine wb_cons (ws_for (wi_l ?_))
    walk_at "w"
    show ∃ I, _
    refine ⟨fun i l1 M1 => M.Sublist M1 ∧ ∃ a b, l1 = [some .pot, some (rowD T.C_Row ws), some (.lst (D.strs ws)), some (.int (ws.length : Nat)), some (.lst (oddC (ws.length : Nat) m)), a, b], ⟨List.Sublist.refl _, none, none, rfl⟩, ?_, ?_⟩
    · rintro i d l2 M1 hd ⟨hs, a, b, rfl⟩
      have hd := List.mem_of_getElem? hd
      obtain ⟨o1, o2, o3, o4⟩ := oddC_ok (K := K) d hd
      refine ⟨[d], rfl, ?_⟩
      have lc1 : ∀ {l : Sl} (Y : Co) (M' : Mem) Q0 E0, l[1]? = some (some (rowD T.C_Row ws)) → l[5]? = some (some d) → CoOk Y P w K mg base 4 → outQ T (.cnt d) Q0 E0 M' → wE Y (tbl T) (gm0 (gam T)) (.mu (.v 1) "first" [.v 5]) l M' Q0 E0 := fun Y M' Q0 E0 h1 h5 C z =>
        we_mu (we_v h1 ⟨_, mt_row T C T.me_Row_first (by decide), wa_cons (we_v h5 (wa_nil (cc_fn0 C (ox_first T) (by decide) T.b_Row_first ⟨ws, d, rfl, hws, by omega, o1, (fun _ _ h => by rw [o2] at h; cases h), fun _ => z⟩)))⟩)
      have lc2 : ∀ {l : Sl} (Y : Co) (M' : Mem) Q0 E0, l[1]? = some (some (rowD T.C_Row ws)) → l[5]? = some (some d) → CoOk Y P w K mg base 4 → outQ T (.cnt d) Q0 E0 M' → wE Y (tbl T) (gm0 (gam T)) (.mu (.v 1) "after" [.v 5]) l M' Q0 E0 := fun Y M' Q0 E0 h1 h5 C z =>
        we_mu (we_v h1 ⟨_, mt_row T C T.me_Row_after (by decide), wa_cons (we_v h5 (wa_nil (cc_fn0 C (ox_after T) (by decide) T.b_Row_after ⟨ws, d, rfl, hws, by omega, o1, (fun _ _ h => by rw [o2] at h; cases h), fun _ => z⟩)))⟩)
      have lc3 : ∀ {l : Sl} (Y : Co) (M' : Mem) Q0 E0, l[1]? = some (some (rowD T.C_Row ws)) → l[5]? = some (some d) → CoOk Y P w K mg base 4 → outQ T (.cnt d) Q0 E0 M' → wE Y (tbl T) (gm0 (gam T)) (.muk (.v 1) "after" [] ["many"] [.v 5]) l M' Q0 E0 := fun Y M' Q0 E0 h1 h5 C z =>
        we_muk (we_v h1 ⟨_, mt_row T C T.me_Row_after (by decide), wa_nil (wa_cons (we_v h5 (wa_nil (ck_fn C (ox_after T) (by decide) T.bk_Row_after rfl rfl ⟨ws, d, rfl, hws, by omega, o1, (fun _ _ h => by rw [o2] at h; cases h), fun _ => z⟩))))⟩)
      walk_at "w"
      refine told_lam T (.cnt d) trivial (fun Y M' Q0 E0 C z => lc1 Y M' Q0 E0 rfl rfl C z) ?_
      walk_at "w"
      intro p hp
      walk_at "w"
      refine ⟨_, _, mb_append, kd_own at_head, ?_⟩
      refine wa_cons (told_lam T (.cnt d) trivial (fun Y M' Q0 E0 C z => lc2 Y M' Q0 E0 rfl rfl C z) ?_)
      walk_at "w"
      refine bc_append at_head (by exact (by decide : 1 < sizeLine)) ?_
      rw [put_head hp]
      walk_at "w"
      refine ⟨_, _, mb_append, kd_own at_head, ?_⟩
      refine wa_cons (told_lam T (.cnt d) trivial (fun Y M' Q0 E0 C z => lc3 Y M' Q0 E0 rfl rfl C z) ?_)
      walk_at "w"
      refine bc_append at_head (by exact (by decide : 2 < sizeLine)) ?_
      rw [put_head hp]
      walk_at "w"
      refine oc_rep (by decide) (by decide) (by exact (by decide : 3 ≤ sizeLine)) ?_
      walk_at "w"
      refine oc_neS C (ds := [resD (.cnt d), resD (.cnt d), resD (.cnt d)]) (vw_own at_head) rfl (by simp [resD, eqbs, Wx.eqb, o3]) (by simp only [resD, dpts, dpt]; omega) ?_
      walk_at "w"
      refine k_F ?_
      walk_at "w"
      exact ⟨hs.cons _, _, _, rfl⟩
    · rintro l2 M1 ⟨hs, a, b, rfl⟩
      walk_at "w"
      exact ⟨M, _, .sub .refl hs, hq⟩
end
end Fk
set_option Elab.async false
set_option linter.all false
set_option maxRecDepth 100000
set_option maxHeartbeats 4000000
local macro_rules | `(tactic| walk_at "w") => `(tactic| repeat (first
  | ((with_reducible show Wx.wE _ _ _ (Wx.IE.v _) _ _ _ _); refine Wx.we_v rfl ?_)
  | (with_reducible first | refine Wx.wa_cons ?_ | refine Wx.wa_nil ?_ | refine Wx.wb_cons ?_ | refine Wx.wb_nil ?_ | refine Wx.we_cmp ?_ | refine Wx.we_bin ?_ | refine Wx.we_int ?_ | refine Wx.we_str ?_ | refine Wx.we_bl ?_ | refine Wx.we_non ?_ | refine Wx.we_cu ?_ | refine Wx.we_cb ?_ | refine Wx.we_ct ?_ | refine Wx.we_cuk ?_ | refine Wx.we_lst ?_ | refine Wx.we_tup ?_ | refine Wx.we_ix ?_ | refine Wx.we_sl ?_ | refine Wx.we_rev ?_ | refine Wx.we_att ?_ | refine Wx.we_not ?_ | refine Wx.we_and ?_ | refine Wx.we_or ?_ | refine Wx.we_un ?_ | refine Wx.we_ite ?_ | refine Wx.we_cm2 ?_ | refine Wx.we_dic0 ?_ | refine Wx.we_mu ?_ | refine Wx.we_mb ?_ | refine Wx.we_isT ?_ | refine Wx.we_muk ?_ | refine Wx.we_olst ?_ | refine Wx.we_oli ?_ | refine Wx.we_odic ?_)
  | (with_reducible first | refine Wx.wo_nil ?_ | refine Wx.wo_some ?_ | refine Wx.wand_1 ?_ | refine Wx.wand_2 ?_ | refine Wx.wor_1 ?_ | refine Wx.wor_2 ?_ | refine Wx.wt_not ?_ | refine Wx.wt_and ?_ | refine Wx.wt_or ?_ | refine Wx.wt_cmp ?_ | refine Wx.wt_cm2 ?_ | refine Wx.wtand_1 ?_ | refine Wx.wtand_2 ?_ | refine Wx.wtor_1 ?_ | refine Wx.wtor_2 ?_ | refine Wx.wts_nil ?_ | refine Wx.wts_1 ?_ | refine Wx.ws_set ?_ | refine Wx.ws_ret ?_ | refine Wx.ws_ret0 ?_ | refine Wx.ws_unp ?_ | refine Wx.ws_par ?_ | refine Wx.ws_drop ?_ | refine Wx.ws_ife ?_ | refine Wx.ws_pass ?_ | refine Wx.ws_brk ?_ | refine Wx.ws_cont ?_ | refine Wx.wi_ra ?_ | refine Wx.wi_zi ?_)
  | (with_reducible first | refine Wx.k_bl ?_ | refine Wx.k_lst ?_ | refine Wx.k_tup ?_ | refine Wx.k_str ?_ | refine Wx.k_int ?_ | refine Wx.k_zip ?_)
  | (with_reducible first | refine Wx.pc_tup ?_)
  | ((with_reducible refine Wx.k_len ?wh ?_); (case wh => rfl))
  | ((with_reducible refine Wx.wt_val ?wh ?_); (case wh => rfl))
  | (with_reducible first | refine Wx.oc_add ?_ | refine Wx.oc_sub ?_ | refine Wx.oc_lt ?_ | refine Wx.oc_le ?_ | refine Wx.oc_gt ?_ | refine Wx.oc_ge ?_ | refine Wx.oc_eqI ?_ | refine Wx.oc_neI ?_ | refine Wx.oc_eqT ?_ | refine Wx.oc_neT ?_ | refine Wx.oc_eqB ?_ | refine Wx.oc_neB ?_ | refine Wx.oc_isB ?_ | refine Wx.oc_notB ?_ | refine Wx.cc_lenL ?_ | refine Wx.cc_lenT ?_ | refine Wx.cc_listL ?_ | refine Wx.cc_listT ?_ | refine Wx.cc_tupL ?_ | refine Wx.cc_tupT ?_ | refine Wx.cc_int ?_ | refine Wx.cc_intB ?_ | refine Wx.cc_max ?_ | refine Wx.cc_min ?_ | refine Wx.cc_abs ?_ | refine Wx.pc_l ?_ | refine Wx.cc_all ?_ | refine Wx.cc_any ?_)))
/-! Law k13: rules of the row's parts; _law_wrong, _law_no_lists_right, _law_ends_right. -/
namespace Fk
open PySem L2 Fx Wx
theorem tyL {K : PySem.W.Frag} {d : D} (h : (match d with | .non => true | .bl _ => true | .int _ => true | .str _ => true | .lst _ => true | .tup _ => true | .dic _ => true | _ => false) = true) : TyL K d := by
  cases d with
  | non => exact ⟨_, rfl, rfl, rfl⟩
  | bl b => exact ⟨_, rfl, rfl, rfl⟩
  | int i => exact ⟨_, rfl, rfl, rfl⟩
  | str z => exact ⟨_, rfl, rfl, rfl⟩
  | lst z => exact ⟨_, rfl, kit_any1, rfl⟩
  | tup z => exact ⟨_, rfl, rfl, rfl⟩
  | dic z => exact ⟨_, rfl, rfl, rfl⟩
  | _ => cases h
theorem dint {i j : Nat} (h : D.int (i : Int) = .int (j : Int)) : i = j := by injection h with h; omega
theorem okM {n i : Nat} (h : i ≤ n) : okMany n (.int (i : Int)) = true := by
  show (decide (0 ≤ (i : Int)) && decide ((i : Int) ≤ (n : Int))) = true
  rw [decide_eq_true (by omega), decide_eq_true (by omega)]; rfl
theorem okS {n i : Nat} (h : i < n) : okSpot n (.int (i : Int)) = true := by
  show (decide (0 ≤ (i : Int)) && decide ((i : Int) < (n : Int))) = true
  rw [decide_eq_true (by omega), decide_eq_true (by omega)]; rfl
section
variable {P : Program} {w : World} {K : PySem.W.Frag} {mg : Str → Option Value} {base : Heap} {Y : Co} {T' : Tb} {k : Nat} {M : Mem} {Q : PD} {E : PX} (T : Tx K mg) {ws us : List Str} {i : Nat}
theorem sp_first {CE : Addr} (hws : ∀ z ∈ ws, Nm z) (hl : ws.length ≤ 400) (hi : i ≤ ws.length) {g : List Str → Nat → List Str} (q : Q (rowD T.C_Row (g ws i)) M) : spCut K T.C_Row CE okMany g [rowD T.C_Row ws, .int (i : Int)] M Q E :=
  ⟨ws, _, rfl, hws, hl, tyI rfl, fun j hj _ => by rw [← dint hj]; exact q, fun h => by rw [okM hi] at h; cases h⟩
theorem sp_without {CE : Addr} (hws : ∀ z ∈ ws, Nm z) (hl : ws.length ≤ 400) (hi : i < ws.length) {g : List Str → Nat → List Str} (q : Q (rowD T.C_Row (g ws i)) M) : spCut K T.C_Row CE okSpot g [rowD T.C_Row ws, .int (i : Int)] M Q E :=
  ⟨ws, _, rfl, hws, hl, tyI rfl, fun j hj _ => by rw [← dint hj]; exact q, fun h => by rw [okS hi] at h; cases h⟩
theorem oc_join (C : CoOk Y P w K mg base k) (hk : 4 ≤ k) (hws : ∀ z ∈ ws, Nm z) (hus : ∀ z ∈ us, Nm z) (hl : ws.length + us.length ≤ 400) (q : Q (rowD T.C_Row (ws ++ us)) M) : OC Y T' (binaryOp .Add) (rowD T.C_Row ws) (rowD T.C_Row us) M Q E :=
  oc_binX C T.sp_Row_add (by decide +kernel) T.sf_Row (ox_add T) hk T.b_Row_add insD insD ⟨ws, us, rfl, hws, hus, hl, q⟩
theorem uc_turn (C : CoOk Y P w K mg base k) (hk : 4 ≤ k) (hws : ∀ z ∈ ws, Nm z) (hl : ws.length ≤ 400) (q : Q (rowD T.C_Row ws.reverse) M) : UC Y T' (unaryOp .Invert) (rowD T.C_Row ws) M Q E :=
  uc_invX C T.sp_Row_invert (ox_invert T) hk T.b_Row_invert insD ⟨ws, rfl, hws, hl, q⟩
/-- != of equal rows -/
theorem oc_neSame (C : CoOk Y P w K mg base k) (hk : 2 ≤ k) (hws : ∀ z ∈ ws, Nm z) (he : us = ws) (q : Q (.bl false) M) : OC Y T' (compareOp .NotEq) (rowD T.C_Row ws) (rowD T.C_Row us) M Q E := by
  subst he
  exact oc_neR T (t := true) C hk hws (eq_row T hws) (row_row T) rfl (by simp) q
theorem cc_pickD {ds : List D} (C : CoOk Y P w K mg base k) (hk : 2 ≤ k) (hne : ds ≠ []) (hl : ds.length ≤ 1000) (q : ∀ a ∈ ds, Q a M) : CC Y T' (.ref T.a_l_pick) [.pot, .lst ds] M Q E :=
  cc_old C (ok_pick T) hk T.b_l_pick ⟨_, rfl, hne, by omega⟩ fun d ⟨xs, e, hx⟩ => by
    injection e with _ e
    injection e with e _
    injection e with e
    subst e
    exact q d hx
end
section
variable {P : Program} {w : World} {K : PySem.W.Frag} {mg : Str → Option Value} {base : Heap} {T' : Tb}
theorem ox_wrong (T : Tx K mg) : FnX P w K mg base T' 1 T.a_l_wrong T.d_l_wrong ["_law_some", "_law_size"] (fun ds M Q E => ∃ (ps : List D) (n : Nat), ds = [.lst ps, .int (n : Int)] ∧ ps.length ≤ sizeLine ∧ (∀ p ∈ ps, TyI K p) ∧ (wrongF n (-1) ps = none → Q .non M) ∧ (∀ j : Nat, wrongF n (-1) ps = some j → Q (.int (j : Int)) M)) :=
  fnX_of (Fun.toA T.f_l_wrong) sc_l_wrong (gl_ok T) ck_l_wrong (fun ds M Q E ⟨_, _, q, _⟩ => by rw [q]; rfl) fun Y ds M Q E C hp => by
    obtain ⟨ps, n, rfl, hpl, hty, hq, he⟩ := hp
    show wB Y T' (gm0 (gam T)) ir_l_wrong [some (.lst ps), some (.int (n : Int)), none, none, none] M _
    unfold ir_l_wrong
    walk_at "w"
    refine uc_neg ?_
    walk_at "w"
    refine wb_cons (ws_for (wi_enL (we_v rfl (k_lst ?_))))
    refine ⟨fun i l1 M1 => M1 = M ∧ ∃ (last : Int) (a b : Option D), l1 = [some (.lst ps), some (.int (n : Int)), some (.int last), a, b] ∧ -1 ≤ last ∧ wrongF n (-1) ps = (wrongF n last (ps.drop i)).map (· + i), ⟨rfl, -1, none, none, rfl, by decide, by simp⟩, ?_, ?_⟩
    · rintro i x l1 M2 hx ⟨rfl, last, a, b, rfl, hlast, hw⟩
      obtain ⟨p, hp, rfl⟩ : ∃ p, ps[i]? = some p ∧ x = .tup [.int (i : Int), p] := enumD_inv hx
      have hip : i < ps.length := (List.getElem?_eq_some_iff.mp hp).1
      have hdrop : ps.drop i = p :: ps.drop (i + 1) := by
        rw [List.drop_eq_getElem_cons hip]
        rw [List.getElem?_eq_getElem hip] at hp
        rw [Option.some.inj hp]
      obtain ⟨t, b1, b2, ht, k1, k2, e, hn, e0⟩ := hty p (List.mem_of_getElem? hp)
      have rz : okAt n last p = false → Q (.int (i : Int)) M2 := fun h => he i (by
        rw [hw, hdrop, wrongF, if_neg (by rw [h]; decide)]
        simp)
      have ni : isIn p = false → okAt n last p = false := fun h => by cases p <;> first | rfl | cases h
      refine ⟨[.int (i : Int), p], rfl, ?_⟩
      walk_at "w"
      refine we_ty C T.z_int rfl ?_
      walk_at "w"
      refine cc_isi C ht k1 ?_ hn
      walk_at "w"
      cases b1 with
      | false =>
        refine k_TF (k_T ?_)
        walk_at "w"
        exact fz_q (rz (ni (e0 rfl)))
      | true =>
        refine k_FT ?_
        walk_at "w"
        refine we_ty C T.z_bool rfl ?_
        walk_at "w"
        refine cc_isi C ht k2 ?_ hn
        walk_at "w"
        cases b2 with
        | true =>
          refine k_TF (k_T ?_)
          walk_at "w"
          exact fz_q (rz (ni e.symm))
        | false =>
          refine k_FT ?_
          obtain ⟨j, rfl⟩ := isIn_int e.symm
          walk_at "w"
          have e2 : okAt n last (.int j) = (decide (last < j) && decide (j < (n : Int))) := rfl
          refine ⟨fun h1 => ?_, fun h1 => ?_⟩
          · walk_at "w"
            refine k_T ?_
            walk_at "w"
            exact fz_q (rz (by rw [e2, h1]; rfl))
          · walk_at "w"
            refine ⟨fun h2 => ?_, fun h2 => ?_⟩
            · walk_at "w"
              exact fz_q (rz (by rw [e2, h1, Bool.true_and]; simpa using h2))
            · have g1 := of_decide_eq_true h1
              walk_at "w"
              refine ⟨rfl, j, _, _, rfl, by omega, ?_⟩
              rw [hw, hdrop, wrongF, if_pos (by rw [e2, h1, Bool.true_and]; simpa using h2)]
              show Option.map (· + i) (Option.map (· + 1) (wrongF n j (ps.drop (i + 1)))) = _
              rw [Option.map_map]
              congr 1
              funext m
              show m + 1 + i = m + (i + 1)
              omega
    · rintro l1 M2 ⟨rfl, last, a, b, rfl, hlast, hw⟩
      rw [enumD_length, List.drop_length] at hw
      walk_at "w"
      exact fz_q (hq (by rw [hw]; rfl))
theorem ox_no_lists (T : Tx K mg) (B : Tbs T base) : FnX P w K mg base (tbl T) 7 T.a_l_no_lists_right T.d_l_no_lists_right ["_law_pot_here", "_law_made"] (fun ds M Q E => ∃ ws : List Str, ds = [.pot, rowD T.C_Row ws] ∧ (∀ z ∈ ws, Nm z) ∧ ws.length ≤ 12 ∧ Q (.bl true) M) :=
  fnL_of (told := toldG P w base T) (kt := 6) (kl := 4) (Fun.toA T.f_l_no_lists_right) sc_l_no_lists_right (gl_ok T) ck_l_no_lists_right (fun ds M Q E ⟨_, q, _⟩ => by rw [q]; rfl)
    B.t3 T.co_l_no_lists_right (by unfold tbl; simp) (fun p hp e => by
      have nd := B.nd
      simp only [List.nodup_cons, List.mem_cons, List.not_mem_nil, or_false, not_or] at nd
      unfold tbl at hp
      simp only [List.mem_cons, List.not_mem_nil, or_false] at hp
      rcases hp with rfl | rfl | rfl
      · exact absurd e nd.1.2
      · exact absurd e nd.2.1
      · rfl) (told_all T) (by decide) fun Y me ds M Q E C hp => by
    obtain ⟨ws, rfl, hws, hl, hq⟩ := hp
    show wB Y (tbl T) (gmT P w base T me) ir_l_no_lists_right [some .pot, some (rowD T.C_Row ws), none] M _
    unfold ir_l_no_lists_right
    walk_at "w"
    refine we_dicC ?_
    walk_at "w"
    refine oc_pow ⟨by decide, by decide, by decide⟩ ?_
    walk_at "w"
    refine cc_pickD T C (by decide) (by simp) (by exact (by decide : 9 ≤ 1000)) fun d hd => ?_
    have tl : TyL K d ∧ isLs d = false := by
      simp only [List.mem_cons, List.not_mem_nil, or_false] at hd
      rcases hd with rfl | rfl | rfl | rfl | rfl | rfl | rfl | rfl | rfl <;> first | exact ⟨tyL rfl, rfl⟩ | exact ⟨⟨_, ⟨rfl, T.own_Row⟩, T.ka_Row_2, rfl⟩, rfl⟩
    walk_at "w"
    refine told_lam T (.pos .non) trivial (fun Y M' Q0 E0 C z => ?_) ?_
    · exact we_mu (we_v rfl ⟨_, mt_row T C T.me_Row_kept (by decide), wa_cons (we_v rfl (wa_nil (cc_fn0 C (ox_kept T) (by decide) T.b_Row_kept ⟨ws, d, rfl, hws, by omega, tl.1, .inl ⟨tl.2, z⟩⟩)))⟩)
    walk_at "w"
    refine oc_eqS C (d := resD (.pos .non)) rfl rfl (by simp [resD, Wx.eqb, eqbs]) (by simp [resD, dpt, dpts]) rfl ?_
    exact fz_q hq
theorem ox_ends (T : Tx K mg) : FnX P w K mg base T' 5 T.a_l_ends_right T.d_l_ends_right ["_law_made", "_law_word"] (fun ds M Q E => ∃ ws : List Str, ds = [rowD T.C_Row ws, .lst (D.strs ws)] ∧ (∀ z ∈ ws, Nm z) ∧ ws.length ≤ 12 ∧ Q (.bl true) M) :=
  fnX_of (Fun.toA T.f_l_ends_right) sc_l_ends_right (gl_ok T) ck_l_ends_right (fun ds M Q E ⟨_, q, _⟩ => by rw [q]; rfl) fun Y ds M Q E C hp => by
    obtain ⟨ws, rfl, hws, hl, hq⟩ := hp
    have l1 : (D.strs ws).length = ws.length := List.length_map _
    have nt : ∀ n, ∀ z ∈ ws.take n, Nm z := fun n z hz => hws z (List.mem_of_mem_take hz)
    have ndr : ∀ n, ∀ z ∈ ws.drop n, Nm z := fun n z hz => hws z (List.mem_of_mem_drop hz)
    have lt : ∀ n, (ws.take n).length ≤ 12 := fun n => by rw [List.length_take]; omega
    have ld : ∀ n, (ws.drop n).length ≤ 12 := fun n => by rw [List.length_drop]; omega
    show wB Y T' (gm0 (gam T)) ir_l_ends_right [some (rowD T.C_Row ws), some (.lst (D.strs ws)), none, none, none] M _
    unfold ir_l_ends_right
    refine wb_cons (ws_for ?_)
    walk_at "w"
    rw [l1]
    refine ⟨by omega, fun _ l1 M1 => M1 = M ∧ ∃ a b c, l1 = [some (rowD T.C_Row ws), some (.lst (D.strs ws)), a, b, c], ⟨rfl, none, none, none, rfl⟩, ?_, ?_⟩
    · rintro i x l2 M2 hx ⟨rfl, a, b, c, rfl⟩
      obtain ⟨hi, rfl⟩ : i < ws.length + 1 ∧ x = .int (i : Int) := upTo_inv (by rwa [show ((ws.length : Int) + 1).toNat = ws.length + 1 from by omega] at hx)
      refine ⟨_, rfl, ?_⟩
      walk_at "w"
      refine ⟨_, mt_row T C T.me_Row_first (by decide), ?_⟩
      walk_at "w"
      refine cc_fn0 C (ox_first T) (by decide) T.b_Row_first (sp_first T hws (by omega) (by omega) ?_)
      walk_at "w"
      refine ⟨_, mt_row T C T.me_Row_after (by decide), ?_⟩
      walk_at "w"
      refine cc_fn0 C (ox_after T) (by decide) T.b_Row_after (sp_first T hws (by omega) (by omega) ?_)
      walk_at "w"
      refine ⟨_, mt_row T C T.me_Row_first (by decide), ?_⟩
      walk_at "w"
      refine ck_fn C (ox_first T) (by decide) T.bk_Row_first rfl rfl (sp_first T hws (by omega) (by omega) ?_)
      walk_at "w"
      refine ⟨_, mt_row T C T.me_Row_after (by decide), ?_⟩
      walk_at "w"
      refine ck_fn C (ox_after T) (by decide) T.bk_Row_after rfl rfl (sp_first T hws (by omega) (by omega) ?_)
      walk_at "w"
      refine we_lc (wi_l ?_)
      walk_at "w"
      refine k_map (fun d => .tup (D.strs (unR d))) (fun d hd => ⟨[d], rfl, ?_⟩) ?_
      · have hd : ∃ us : List Str, d = rowD T.C_Row us ∧ (∀ z ∈ us, Nm z) ∧ us.length ≤ 12 := by
          simp only [List.mem_cons, List.not_mem_nil, or_false] at hd
          rcases hd with rfl | rfl | rfl | rfl
          · exact ⟨_, rfl, nt i, lt i⟩
          · exact ⟨_, rfl, ndr i, ld i⟩
          · exact ⟨_, rfl, nt i, lt i⟩
          · exact ⟨_, rfl, ndr i, ld i⟩
        obtain ⟨us, rfl, hus, hul⟩ := hd
        walk_at "w"
        exact ac_nm T C (by decide) hus (by omega) ⟨rfl, by rw [unR_row]⟩
      walk_at "w"
      rw [cut_to ws (by omega), cut_from ws (by omega)]
      walk_at "w"
      refine oc_rep (by decide) (by decide) (by exact (by decide : 4 ≤ sizeLine)) ?_
      walk_at "w"
      refine oc_neS C (ds := [.tup (D.strs (ws.take i)), .tup (D.strs (ws.drop i)), .tup (D.strs (ws.take i)), .tup (D.strs (ws.drop i))]) (by simp only [vw, List.map_cons, List.map_nil, unR_row]) rfl (by simp only [eqbs, Wx.eqb, eqbs_strs, Bool.and_self]) (by have := dpts_strs (ws.take i); have := dpts_strs (ws.drop i); simp only [dpts, dpt]; omega) ?_
      walk_at "w"
      refine k_F ?_
      walk_at "w"
      refine ⟨_, mt_row T C T.me_Row_first (by decide), ?_⟩
      walk_at "w"
      refine cc_fn0 C (ox_first T) (by decide) T.b_Row_first (sp_first T hws (by omega) (by omega) ?_)
      walk_at "w"
      refine ⟨_, mt_row T C T.me_Row_after (by decide), ?_⟩
      walk_at "w"
      refine cc_fn0 C (ox_after T) (by decide) T.b_Row_after (sp_first T hws (by omega) (by omega) ?_)
      refine oc_join T C (by decide) (nt i) (ndr i) (by have := lt i; have := ld i; omega) ?_
      rw [List.take_append_drop]
      walk_at "w"
      refine oc_neSame T C (by decide) hws rfl ?_
      walk_at "w"
      refine k_FT ?_
      walk_at "w"
      refine ⟨_, mt_row T C T.me_Row_first (by decide), ?_⟩
      walk_at "w"
      refine cc_fn0 C (ox_first T) (by decide) T.b_Row_first (sp_first T hws (by omega) (by omega) ?_)
      refine uc_turn T C (by decide) (nt i) (by have := lt i; omega) ?_
      walk_at "w"
      refine uc_turn T C (by decide) hws (by omega) ?_
      refine ⟨_, mt_row T C T.me_Row_after (by decide), ?_⟩
      walk_at "w"
      have hr : ∀ z ∈ ws.reverse, Nm z := fun z hz => hws z (List.mem_reverse.mp hz)
      rw [l1, show ((ws.length : Int) - (i : Int)) = ((ws.length - i : Nat) : Int) from by omega]
      refine cc_fn0 C (ox_after T) (by decide) T.b_Row_after (sp_first T hr (by rw [List.length_reverse]; omega) (by rw [List.length_reverse]; omega) ?_)
      refine oc_neSame T C (by decide) (fun z hz => nt i z (List.mem_reverse.mp hz)) ?_ ?_
      · rw [List.reverse_take]
      walk_at "w"
      refine k_F ?_
      walk_at "w"
      exact ⟨rfl, _, _, _, rfl⟩
    · rintro l2 M2 ⟨rfl, a, b, c, rfl⟩
      walk_at "w"
      exact fz_q hq
end
end Fk
set_option Elab.async false
set_option linter.all false
set_option maxRecDepth 100000
set_option maxHeartbeats 4000000
local macro_rules | `(tactic| walk_at "w") => `(tactic| repeat (first
  | ((with_reducible show Wx.wE _ _ _ (Wx.IE.v _) _ _ _ _); refine Wx.we_v rfl ?_)
  | (with_reducible first | refine Wx.wa_cons ?_ | refine Wx.wa_nil ?_ | refine Wx.wb_cons ?_ | refine Wx.wb_nil ?_ | refine Wx.we_cmp ?_ | refine Wx.we_bin ?_ | refine Wx.we_int ?_ | refine Wx.we_str ?_ | refine Wx.we_bl ?_ | refine Wx.we_non ?_ | refine Wx.we_cu ?_ | refine Wx.we_cb ?_ | refine Wx.we_ct ?_ | refine Wx.we_cuk ?_ | refine Wx.we_lst ?_ | refine Wx.we_tup ?_ | refine Wx.we_ix ?_ | refine Wx.we_sl ?_ | refine Wx.we_rev ?_ | refine Wx.we_att ?_ | refine Wx.we_not ?_ | refine Wx.we_and ?_ | refine Wx.we_or ?_ | refine Wx.we_un ?_ | refine Wx.we_ite ?_ | refine Wx.we_cm2 ?_ | refine Wx.we_dic0 ?_ | refine Wx.we_mu ?_ | refine Wx.we_mb ?_ | refine Wx.we_isT ?_ | refine Wx.we_muk ?_ | refine Wx.we_olst ?_ | refine Wx.we_oli ?_ | refine Wx.we_odic ?_)
  | (with_reducible first | refine Wx.wo_nil ?_ | refine Wx.wo_some ?_ | refine Wx.wand_1 ?_ | refine Wx.wand_2 ?_ | refine Wx.wor_1 ?_ | refine Wx.wor_2 ?_ | refine Wx.wt_not ?_ | refine Wx.wt_and ?_ | refine Wx.wt_or ?_ | refine Wx.wt_cmp ?_ | refine Wx.wt_cm2 ?_ | refine Wx.wtand_1 ?_ | refine Wx.wtand_2 ?_ | refine Wx.wtor_1 ?_ | refine Wx.wtor_2 ?_ | refine Wx.wts_nil ?_ | refine Wx.wts_1 ?_ | refine Wx.ws_set ?_ | refine Wx.ws_ret ?_ | refine Wx.ws_ret0 ?_ | refine Wx.ws_unp ?_ | refine Wx.ws_par ?_ | refine Wx.ws_drop ?_ | refine Wx.ws_ife ?_ | refine Wx.ws_pass ?_ | refine Wx.ws_brk ?_ | refine Wx.ws_cont ?_ | refine Wx.wi_ra ?_ | refine Wx.wi_zi ?_)
  | (with_reducible first | refine Wx.k_bl ?_ | refine Wx.k_lst ?_ | refine Wx.k_tup ?_ | refine Wx.k_str ?_ | refine Wx.k_int ?_ | refine Wx.k_zip ?_)
  | (with_reducible first | refine Wx.pc_tup ?_)
  | ((with_reducible refine Wx.k_len ?wh ?_); (case wh => rfl))
  | ((with_reducible refine Wx.wt_val ?wh ?_); (case wh => rfl))
  | (with_reducible first | refine Wx.oc_add ?_ | refine Wx.oc_sub ?_ | refine Wx.oc_lt ?_ | refine Wx.oc_le ?_ | refine Wx.oc_gt ?_ | refine Wx.oc_ge ?_ | refine Wx.oc_eqI ?_ | refine Wx.oc_neI ?_ | refine Wx.oc_eqT ?_ | refine Wx.oc_neT ?_ | refine Wx.oc_eqB ?_ | refine Wx.oc_neB ?_ | refine Wx.oc_isB ?_ | refine Wx.oc_notB ?_ | refine Wx.cc_lenL ?_ | refine Wx.cc_lenT ?_ | refine Wx.cc_listL ?_ | refine Wx.cc_listT ?_ | refine Wx.cc_tupL ?_ | refine Wx.cc_tupT ?_ | refine Wx.cc_int ?_ | refine Wx.cc_intB ?_ | refine Wx.cc_max ?_ | refine Wx.cc_min ?_ | refine Wx.cc_abs ?_ | refine Wx.pc_l ?_ | refine Wx.cc_all ?_ | refine Wx.cc_any ?_)))
/-! Law k13: data of _law_kept_right. -/
namespace Fk
open PySem L2 Fx Wx
abbrev nats (ks : List Nat) : List D := ks.map fun (k : Nat) => D.int (k : Int)
/-- a value that repr tells shortly -/
structure Gd (d : D) : Prop where
  sh : shb d = true
  sw : (py2 d).showable = true
  dp : (py2 d).depth ≤ 3
  ln : (py2 d).shown.length ≤ 40
theorem ln_small : ∀ n : Nat, n < 13 → (PyData.int (n : Int)).shown.length ≤ 40 ∧ (PyData.int (n : Int)).showable = true := by
  simp only [PyData.shown, PyData.showable]
  decide +kernel
theorem ln_big : ∀ n : Nat, n < 13 → (PyData.int ((n : Int) + 100000000000000000000)).shown.length ≤ 40 ∧ (PyData.int ((n : Int) + 100000000000000000000)).showable = true := by
  simp only [PyData.shown, PyData.showable]
  decide +kernel
theorem gd_int {n : Nat} (h : n < 13) : Gd (.int (n : Int)) := ⟨rfl, (ln_small n h).2, by simp [py2, PyData.depth], (ln_small n h).1⟩
theorem gd_big {n : Nat} (h : n < 13) : Gd (.int ((n : Int) + 100000000000000000000)) := ⟨rfl, (ln_big n h).2, by simp [py2, PyData.depth], (ln_big n h).1⟩
theorem showAll {ds : List D} (h : ∀ d ∈ ds, Gd d) : PyData.showableAll (py2s ds) = true := by
  induction ds with
  | nil => simp [py2s, PyData.showableAll]
  | cons d r ih => simp [py2s, PyData.showableAll, (h d List.mem_cons_self).sw, ih fun e he => h e (List.mem_cons_of_mem _ he)]
theorem depthAll3 {ds : List D} (h : ∀ d ∈ ds, Gd d) : PyData.depthAll (py2s ds) ≤ 3 := by
  induction ds with
  | nil => simp [py2s, PyData.depthAll]
  | cons d r ih =>
    have h1 := (h d List.mem_cons_self).dp
    have h2 := ih fun e he => h e (List.mem_cons_of_mem _ he)
    simp only [py2s, PyData.depthAll]
    omega
section
variable {P : Program} {w : World} {K : PySem.W.Frag} {mg : Str → Option Value} {base : Heap} {Y : Co} {T' : Tb} {k : Nat} {M : Mem} {Q : PD} {E : PX}
def shL (ds : List D) : Str := (PyData.list (py2s ds)).shown
theorem cc_reprGd (T : Tx K mg) {ds : List D} (C : CoOk Y P w K mg base k) (h : ∀ d ∈ ds, Gd d) (hl : ds.length ≤ 100) (q : Q (.str (shL ds)) M) : CC Y T' (.builtin "repr") [.lst ds] M Q E :=
  cc_reprL C T.smk (shbs_all fun d hd => (h d hd).sh) (by rw [PyData.showable]; exact showAll h) (by have := depthAll3 h; rw [PyData.depth]; omega)
    (by
      have := shown_list_len (b := 40) (ds := py2s ds) fun x hx => by
        rw [py2s_map] at hx
        obtain ⟨d, hd, rfl⟩ := List.mem_map.mp hx
        exact (h d hd).ln
      rw [py2s_map, List.length_map, ← py2s_map] at this
      rw [sizeLine_eq]
      omega) q
end
/-- values of which one or the other is put into a list of places -/
def oddK (n : Nat) (ks : List Nat) : List D := [.non, .bl true, .bl false, .int (-1), .str "0", .tup [.int 0], .lst [.int 0], .dic [], .int (n : Int), .int ((n : Int) + 100000000000000000000)] ++ nats ks
theorem oddK_ok {K : PySem.W.Frag} {n : Nat} {ks : List Nat} (hn : n ≤ 12) (hk : ∀ j ∈ ks, j < n) : ∀ d ∈ oddK n ks, TyI K d ∧ Gd d := by
  intro d hd
  rcases List.mem_append.mp hd with hd | hd
  · simp only [List.mem_cons, List.not_mem_nil, or_false] at hd
    rcases hd with rfl | rfl | rfl | rfl | rfl | rfl | rfl | rfl | rfl | rfl
    · exact ⟨tyI rfl, by decide +kernel, by decide +kernel, by decide +kernel, by decide +kernel⟩
    · exact ⟨tyI rfl, by decide +kernel, by decide +kernel, by decide +kernel, by decide +kernel⟩
    · exact ⟨tyI rfl, by decide +kernel, by decide +kernel, by decide +kernel, by decide +kernel⟩
    · exact ⟨tyI rfl, by decide +kernel, by decide +kernel, by decide +kernel, by decide +kernel⟩
    · exact ⟨tyI rfl, by decide +kernel, by decide +kernel, by decide +kernel, by decide +kernel⟩
    · exact ⟨tyI rfl, by decide +kernel, by decide +kernel, by decide +kernel, by decide +kernel⟩
    · exact ⟨tyI rfl, by decide +kernel, by decide +kernel, by decide +kernel, by decide +kernel⟩
    · exact ⟨tyI rfl, by decide +kernel, by decide +kernel, by decide +kernel, by decide +kernel⟩
    · exact ⟨tyI rfl, gd_int (by omega)⟩
    · exact ⟨tyI rfl, gd_big (by omega)⟩
  · obtain ⟨j, hj, rfl⟩ := List.mem_map.mp hd
    exact ⟨tyI rfl, gd_int (by have := hk j hj; omega)⟩
theorem nats_ok {K : PySem.W.Frag} {n : Nat} {ks : List Nat} (hn : n ≤ 12) (hk : ∀ j ∈ ks, j < n) : ∀ d ∈ nats ks, TyI K d ∧ Gd d := fun d hd => by
  obtain ⟨j, hj, rfl⟩ := List.mem_map.mp hd
  exact ⟨tyI rfl, gd_int (by have := hk j hj; omega)⟩
/-- rising places are right -/
theorem wrongF_up {n : Nat} : ∀ {ks : List Nat} {last : Int}, ks.Pairwise (· < ·) → (∀ j ∈ ks, last < (j : Int) ∧ j < n) → wrongF n last (nats ks) = none
  | [], _, _, _ => rfl
  | j :: r, last, hp, h => by
    obtain ⟨h1, h2⟩ := List.pairwise_cons.mp hp
    obtain ⟨h3, h4⟩ := h j List.mem_cons_self
    show wrongF n last (D.int (j : Int) :: nats r) = none
    unfold wrongF
    rw [if_pos (by show (decide (last < (j : Int)) && decide ((j : Int) < (n : Int))) = true; rw [decide_eq_true h3, decide_eq_true (by omega)]; rfl)]
    rw [show numD (D.int (j : Int)) = (j : Int) from rfl, wrongF_up h2 fun i hi => ⟨by have := h1 i hi; omega, (h i (List.mem_cons_of_mem _ hi)).2⟩]
    rfl
theorem keptW_nats (ws : List Str) (ks : List Nat) : keptW ws (nats ks) = ks.map fun j => ws.getD j "" := by
  unfold keptW nats
  rw [List.map_map]
  rfl
theorem len_up {n : Nat} {ks : List Nat} (hp : ks.Pairwise (· < ·)) (h : ∀ j ∈ ks, j < n) : ks.length ≤ n := by
  have := (wrongF_all (wrongF_up (last := -1) hp fun j hj => ⟨by omega, h j hj⟩)).2
  rwa [show (nats ks).length = ks.length from List.length_map _] at this
end Fk
set_option Elab.async false
set_option linter.all false
set_option maxRecDepth 100000
set_option maxHeartbeats 4000000
local macro_rules | `(tactic| walk_at "w") => `(tactic| repeat (first
  | ((with_reducible show Wx.wE _ _ _ (Wx.IE.v _) _ _ _ _); refine Wx.we_v rfl ?_)
  | (with_reducible first | refine Wx.wa_cons ?_ | refine Wx.wa_nil ?_ | refine Wx.wb_cons ?_ | refine Wx.wb_nil ?_ | refine Wx.we_cmp ?_ | refine Wx.we_bin ?_ | refine Wx.we_int ?_ | refine Wx.we_str ?_ | refine Wx.we_bl ?_ | refine Wx.we_non ?_ | refine Wx.we_cu ?_ | refine Wx.we_cb ?_ | refine Wx.we_ct ?_ | refine Wx.we_cuk ?_ | refine Wx.we_lst ?_ | refine Wx.we_tup ?_ | refine Wx.we_ix ?_ | refine Wx.we_sl ?_ | refine Wx.we_rev ?_ | refine Wx.we_att ?_ | refine Wx.we_not ?_ | refine Wx.we_and ?_ | refine Wx.we_or ?_ | refine Wx.we_un ?_ | refine Wx.we_ite ?_ | refine Wx.we_cm2 ?_ | refine Wx.we_dic0 ?_ | refine Wx.we_mu ?_ | refine Wx.we_mb ?_ | refine Wx.we_isT ?_ | refine Wx.we_muk ?_ | refine Wx.we_olst ?_ | refine Wx.we_oli ?_ | refine Wx.we_odic ?_)
  | (with_reducible first | refine Wx.wo_nil ?_ | refine Wx.wo_some ?_ | refine Wx.wand_1 ?_ | refine Wx.wand_2 ?_ | refine Wx.wor_1 ?_ | refine Wx.wor_2 ?_ | refine Wx.wt_not ?_ | refine Wx.wt_and ?_ | refine Wx.wt_or ?_ | refine Wx.wt_cmp ?_ | refine Wx.wt_cm2 ?_ | refine Wx.wtand_1 ?_ | refine Wx.wtand_2 ?_ | refine Wx.wtor_1 ?_ | refine Wx.wtor_2 ?_ | refine Wx.wts_nil ?_ | refine Wx.wts_1 ?_ | refine Wx.ws_set ?_ | refine Wx.ws_ret ?_ | refine Wx.ws_ret0 ?_ | refine Wx.ws_unp ?_ | refine Wx.ws_par ?_ | refine Wx.ws_drop ?_ | refine Wx.ws_ife ?_ | refine Wx.ws_pass ?_ | refine Wx.ws_brk ?_ | refine Wx.ws_cont ?_ | refine Wx.wi_ra ?_ | refine Wx.wi_zi ?_)
  | (with_reducible first | refine Wx.k_bl ?_ | refine Wx.k_lst ?_ | refine Wx.k_tup ?_ | refine Wx.k_str ?_ | refine Wx.k_int ?_ | refine Wx.k_zip ?_)
  | (with_reducible first | refine Wx.pc_tup ?_)
  | ((with_reducible refine Wx.k_len ?wh ?_); (case wh => rfl))
  | ((with_reducible refine Wx.wt_val ?wh ?_); (case wh => rfl))
  | (with_reducible first | refine Wx.oc_add ?_ | refine Wx.oc_sub ?_ | refine Wx.oc_lt ?_ | refine Wx.oc_le ?_ | refine Wx.oc_gt ?_ | refine Wx.oc_ge ?_ | refine Wx.oc_eqI ?_ | refine Wx.oc_neI ?_ | refine Wx.oc_eqT ?_ | refine Wx.oc_neT ?_ | refine Wx.oc_eqB ?_ | refine Wx.oc_neB ?_ | refine Wx.oc_isB ?_ | refine Wx.oc_notB ?_ | refine Wx.cc_lenL ?_ | refine Wx.cc_lenT ?_ | refine Wx.cc_listL ?_ | refine Wx.cc_listT ?_ | refine Wx.cc_tupL ?_ | refine Wx.cc_tupT ?_ | refine Wx.cc_int ?_ | refine Wx.cc_intB ?_ | refine Wx.cc_max ?_ | refine Wx.cc_min ?_ | refine Wx.cc_abs ?_ | refine Wx.pc_l ?_ | refine Wx.cc_all ?_ | refine Wx.cc_any ?_)))
/-! Law k13: _law_kept_right. -/
namespace Fk
open PySem L2 Fx Wx
section
variable {P : Program} {w : World} {K : PySem.W.Frag} {mg : Str → Option Value} {base : Heap}
theorem pickLc (T : Tx K mg) {Y : Co} {T' : Tb} {Γ : Gm} {k n : Nat} {l : Sl} {M : Mem} {Q : PD} (C : CoOk Y P w K mg base k) (hk : 1 ≤ k) (hΓ : Γ.v 6 = .ref T.a_l_draw) (h0 : l[0]? = some (some .pot)) (h14 : l.length = 14) (q : ∀ ks : List Nat, ks.Pairwise (· < ·) → (∀ j ∈ ks, j < n) → Q (.lst (nats ks)) M) :
    LcQ Y T' Γ (.v 13) [13] [.cmp .Eq (.cu "_law_draw" 6 [.v 0, .int 2]) (.int 0)] [("_law_k", 13)] l (Fx.upTo n) M Q := by
  refine k_inv (fun i acc M2 => M2 = M ∧ ∃ ks : List Nat, acc = nats ks ∧ ks.Pairwise (· < ·) ∧ ∀ j ∈ ks, j < i) ⟨rfl, [], rfl, List.Pairwise.nil, fun _ z => nomatch z⟩ ?_ ?_
  · rintro i d acc M2 hd ⟨rfl, ks, rfl, hp, hk2⟩
    obtain ⟨hi, rfl⟩ := upTo_inv hd
    refine ⟨[.int (i : Int)], rfl, ?_⟩
    have a0 : (setAll (wipeS l ([("_law_k", 13)].map (·.2))) [13] [D.int (i : Int)])[0]? = some (some .pot) := by simp [setAll, wipeS, List.getElem?_set, h0]
    have a1 : (setAll (wipeS l ([("_law_k", 13)].map (·.2))) [13] [D.int (i : Int)])[13]? = some (some (.int (i : Int))) := by simp [setAll, wipeS, List.getElem?_set, h14]
    refine wts_1 (wt_cmp (we_cu (wa_cons (we_v a0 (wa_cons (we_int (wa_nil ?_)))))))
    rw [hΓ]
    refine cc_draw T C hk (by decide) (by decide) fun m hm => ?_
    refine we_int (oc_eqI (k_bl ⟨fun _ => ⟨rfl, ks, rfl, hp, fun j hj => by have := hk2 j hj; omega⟩, fun _ => we_v a1 ⟨rfl, ks ++ [i], by simp [nats], ?_, fun j hj => ?_⟩⟩))
    · rw [List.pairwise_append]
      exact ⟨hp, List.pairwise_singleton _ _, fun a ha b hb => by rw [List.mem_singleton.mp hb]; exact hk2 a ha⟩
    · rcases List.mem_append.mp hj with z | z
      · have := hk2 j z; omega
      · rw [List.mem_singleton.mp z]; omega
  · rintro acc M2 ⟨rfl, ks, rfl, hp, hk2⟩
    rw [upTo_length] at hk2
    exact q ks hp hk2
theorem sp_keptN (T : Tx K mg) {CE : Addr} {ws : List Str} {ks : List Nat} {d : D} {M : Mem} {Q : PD} {E : PX} (hws : ∀ z ∈ ws, Nm z) (hl : ws.length ≤ 12) (hp : ks.Pairwise (· < ·)) (hk : ∀ j ∈ ks, j < ws.length) (hd : d = .lst (nats ks) ∨ d = .tup (nats ks)) (q : Q (rowD T.C_Row (keptW ws (nats ks))) M) : spKept K T.C_Row CE [rowD T.C_Row ws, d] M Q E :=
  ⟨ws, d, rfl, hws, by omega, by rcases hd with rfl | rfl <;> exact tyL rfl, .inr ⟨nats ks, hd, by have := len_up hp hk; rw [show (nats ks).length = ks.length from List.length_map _]; exact big (by omega), fun p hp => (nats_ok hl hk p hp).1, fun _ => q, fun j hj => by rw [wrongF_up hp fun j hj => ⟨by omega, hk j hj⟩] at hj; cases hj⟩⟩
theorem kept_len {ws : List Str} {ks : List Nat} (hp : ks.Pairwise (· < ·)) (hk : ∀ j ∈ ks, j < ws.length) (hl : ws.length ≤ 12) : (keptW ws (nats ks)).length ≤ 12 := by
  have := len_up hp hk
  rw [keptW_nats, List.length_map]; omega
theorem kept_nm {ws : List Str} {ks : List Nat} (hws : ∀ z ∈ ws, Nm z) (hk : ∀ j ∈ ks, j < ws.length) : ∀ z ∈ keptW ws (nats ks), Nm z := keptW_ok hws fun p hp => by
  obtain ⟨j, hj, rfl⟩ := List.mem_map.mp hp
  exact ⟨j, rfl, hk j hj⟩
theorem at_word {ws : List Str} {j : Nat} (h : j < ws.length) : L2.atI (D.strs ws) (j : Int) = some (.str (ws.getD j "")) := Fx.atI_nat (by
  show (ws.map D.str)[j]? = _
  rw [List.getElem?_map, List.getElem?_eq_getElem h, List.getD_eq_getElem?_getD, List.getElem?_eq_getElem h]
  rfl)
theorem at_nats {ks : List Nat} {j : Nat} (h : j < ks.length) : L2.atI (nats ks) (j : Int) = some (.int ((ks.getD j 0 : Nat) : Int)) := Fx.atI_nat (by
  show (ks.map fun (k : Nat) => D.int (k : Int))[j]? = _
  rw [List.getElem?_map, List.getElem?_eq_getElem h, List.getD_eq_getElem?_getD, List.getElem?_eq_getElem h]
  rfl)
theorem ox_kept_right (T : Tx K mg) (B : Tbs T base) : FnX P w K mg base (tbl T) 7 T.a_l_kept_right T.d_l_kept_right ["_law_pot_here", "_law_made", "_law_word"] (fun ds M Q E => ∃ ws : List Str, ds = [.pot, rowD T.C_Row ws, .lst (D.strs ws)] ∧ (∀ z ∈ ws, Nm z) ∧ ws.length ≤ 12 ∧ Q (.bl true) M) :=
  fnL_of (told := toldG P w base T) (kt := 6) (kl := 4) (Fun.toA T.f_l_kept_right) sc_l_kept_right (gl_ok T) ck_l_kept_right (fun ds M Q E ⟨_, q, _⟩ => by rw [q]; rfl)
    B.t2 T.co_l_kept_right (by unfold tbl; simp) (fun p hp e => by
      have nd := B.nd
      simp only [List.nodup_cons, List.mem_cons, List.not_mem_nil, or_false, not_or] at nd
      unfold tbl at hp
      simp only [List.mem_cons, List.not_mem_nil, or_false] at hp
      rcases hp with rfl | rfl | rfl
      · exact absurd e nd.1.1
      · rfl
      · exact absurd e.symm nd.2.1) (told_all T) (by decide) fun Y me ds M Q E C hp => by
    obtain ⟨ws, rfl, hws, hl, hq⟩ := hp
    have l1 : ∀ l : List Str, (D.strs l).length = l.length := fun l => List.length_map _
    have ln : ∀ l : List Nat, (nats l).length = l.length := fun l => List.length_map _
    show wB Y (tbl T) (gmT P w base T me) ir_l_kept_right [some .pot, some (rowD T.C_Row ws), some (.lst (D.strs ws)), none, none, none, none, none, none, none, none, none, none, none] M _
    unfold ir_l_kept_right
    refine wb_cons (ws_set (we_lc (wi_ra ?_)))
    walk_at "w"
    rw [l1, Int.toNat_natCast]
    refine ⟨by omega, by rw [upTo_length]; exact big (by omega), pickLc T C (by decide) rfl rfl rfl fun ks hp hk => ?_⟩
    have hkl := len_up hp hk
    have gN := nats_ok (K := K) hl hk
    walk_at "w"
    refine cc_reprGd T C (fun d hd => (gN d hd).2) (by rw [ln]; omega) ?_
    walk_at "w"
    refine ⟨rfl, ?_⟩
    walk_at "w"
    refine we_lc (wi_l ?_)
    walk_at "w"
    refine ⟨big (by rw [ln]; omega), k_mapT (inj := fun (j : Nat) => D.int (j : Int)) (fun j => D.str (ws.getD j "")) (fun j hj => ⟨_, rfl, ?_⟩) ?_⟩
    · walk_at "w"
      exact xc_lst (at_word (hk j hj)) ⟨rfl, rfl⟩
    walk_at "w"
    rw [show (ks.map fun j => D.str (ws.getD j "")) = D.strs (keptW ws (nats ks)) from by rw [keptW_nats]; unfold D.strs; rw [List.map_map]; rfl]
    walk_at "w"
    have okR : outOk (.row (keptW ws (nats ks))) := ⟨kept_nm hws hk, by have := kept_len hp hk hl; omega⟩
    refine told_lam T (.row (keptW ws (nats ks))) okR (fun Y M' Q0 E0 C z => ?_) ?_
    · exact we_mu (we_v rfl ⟨_, mt_row T C T.me_Row_kept (by decide), wa_cons (we_v rfl (wa_nil (cc_fn0 C (ox_kept T) (by decide) T.b_Row_kept (sp_keptN T hws hl hp hk (.inl rfl) z))))⟩)
    walk_at "w"
    intro p hpm
    walk_at "w"
    refine ⟨_, _, mb_append, kd_own at_head, ?_⟩
    refine wa_cons (told_lam T (.row (keptW ws (nats ks))) okR (fun Y M' Q0 E0 C z => ?_) ?_)
    · exact we_mu (we_v rfl ⟨_, mt_row T C T.me_Row_kept (by decide), wa_cons (we_ct (wa_cons (we_v rfl (wa_nil (cc_tupL (wa_nil (cc_fn0 C (ox_kept T) (by decide) T.b_Row_kept (sp_keptN T hws hl hp hk (.inr rfl) z))))))))⟩)
    walk_at "w"
    refine bc_append at_head (by exact (by decide : 1 < sizeLine)) ?_
    rw [put_head hpm]
    walk_at "w"
    refine ⟨_, _, mb_append, kd_own at_head, ?_⟩
    refine wa_cons (told_lam T (.row (keptW ws (nats ks))) okR (fun Y M' Q0 E0 C z => ?_) ?_)
    · exact we_muk (we_v rfl ⟨_, mt_row T C T.me_Row_kept (by decide), wa_nil (wa_cons (we_v rfl (wa_nil (ck_fn C (ox_kept T) (by decide) T.bk_Row_kept rfl rfl (sp_keptN T hws hl hp hk (.inl rfl) z)))))⟩)
    walk_at "w"
    refine bc_append at_head (by exact (by decide : 2 < sizeLine)) ?_
    rw [put_head hpm]
    walk_at "w"
    refine oc_rep (by decide) (by decide) (by exact (by decide : 3 ≤ sizeLine)) ?_
    walk_at "w"
    refine oc_neS C (ds := [resD (.row (keptW ws (nats ks))), resD (.row (keptW ws (nats ks))), resD (.row (keptW ws (nats ks)))]) (vw_own at_head) rfl (by simp only [resD, eqbs, Wx.eqb, eqbs_strs, Bool.and_self]) (by have := dpts_strs (keptW ws (nats ks)); simp only [resD, dpts, dpt]; omega) ?_
    walk_at "w"
    refine k_FT ?_
    walk_at "w"
    refine cc_reprGd T C (fun d hd => (gN d hd).2) (by rw [ln]; omega) ?_
    walk_at "w"
    refine k_neF rfl ?_
    refine wb_cons (ws_set (we_lc (wi_ra ?_)))
    walk_at "w"
    rw [ln, Int.toNat_natCast]
    refine ⟨by omega, by rw [upTo_length]; exact big (by omega), pickLc T C (by decide) rfl rfl rfl fun js hp2 hj => ?_⟩
    have hjl := len_up hp2 hj
    have lk : (keptW ws (nats ks)).length = ks.length := by rw [keptW_nats, List.length_map]
    have nmK := kept_nm hws hk
    have hj2 : ∀ j ∈ js, j < (keptW ws (nats ks)).length := fun j h => by rw [lk]; exact hj j h
    have l12 := kept_len hp hk hl
    walk_at "w"
    refine ⟨_, mt_row T C T.me_Row_kept (by decide), ?_⟩
    walk_at "w"
    refine cc_fn0 C (ox_kept T) (by decide) T.b_Row_kept (sp_keptN T hws hl hp hk (.inl rfl) ?_)
    refine ⟨_, mt_row T C T.me_Row_kept (by decide), ?_⟩
    walk_at "w"
    refine cc_fn0 C (ox_kept T) (by decide) T.b_Row_kept (sp_keptN T nmK l12 hp2 hj2 (.inl rfl) ?_)
    refine ac_nm T C (by decide) (kept_nm nmK hj2) (by have := kept_len hp2 hj2 l12; omega) ?_
    walk_at "w"
    refine we_lc (wi_l ?_)
    walk_at "w"
    refine ⟨big (by rw [ln]; omega), k_mapT (inj := fun (j : Nat) => D.int (j : Int)) (fun j => D.str (ws.getD (ks.getD j 0) "")) (fun j hjm => ⟨_, rfl, ?_⟩) ?_⟩
    · walk_at "w"
      refine xc_lst (at_nats (hj j hjm)) ?_
      refine xc_lst (at_word (hk _ ?_)) ⟨rfl, rfl⟩
      rw [List.getD_eq_getElem?_getD, List.getElem?_eq_getElem (hj j hjm)]
      exact List.getElem_mem _
    walk_at "w"
    have eK : (js.map fun j => D.str (ws.getD (ks.getD j 0) "")) = D.strs (keptW (keptW ws (nats ks)) (nats js)) := by
      rw [keptW_nats]
      unfold D.strs
      rw [List.map_map]
      refine List.map_congr_left fun j hjm => ?_
      show D.str _ = D.str _
      congr 1
      rw [keptW_nats]
      have h1 := hj j hjm
      show ws.getD (ks.getD j 0) "" = (List.map (fun i => ws.getD i "") ks).getD j ""
      simp [List.getD_eq_getElem?_getD, List.getElem?_eq_getElem h1]
    rw [eK]
    walk_at "w"
    refine oc_neTs C (fun z hz => nm_ok (kept_nm nmK hj2 z hz)) (fun z hz => nm_ok (kept_nm nmK hj2 z hz)) ?_
    walk_at "w"
    refine k_neF rfl ?_
    walk_at "w"
    rw [ln]
    refine cc_draw T C (by decide) (by omega) (by omega) fun m hm => ?_
    walk_at "w"
    refine uc_neg ?_
    walk_at "w"
    refine oc_pow ⟨by decide, by decide, by decide⟩ ?_
    walk_at "w"
    refine oc_cat (by rw [ln]; exact big (by simp only [List.length_cons, List.length_nil]; omega)) ?_
    rw [l1, show ((10 : Int) ^ Int.toNat 20) = 100000000000000000000 from by decide]
    have gO := oddK_ok (K := K) hl hk
    have lO : (oddK ws.length ks).length ≤ 1000 := by unfold oddK; rw [List.length_append, ln]; simp only [List.length_cons, List.length_nil]; omega
    have nO : oddK ws.length ks ≠ [] := by unfold oddK; simp
    walk_at "w"
    rw [cutD_to]
    walk_at "w"
    refine cc_pickD (ds := oddK ws.length ks) T C (by decide) nO lO fun d1 hd1 => ?_
    walk_at "w"
    have lt : ((nats ks).take m).length ≤ 12 := by rw [List.length_take, ln]; omega
    have ld : ((nats ks).drop m).length ≤ 12 := by rw [List.length_drop, ln]; omega
    refine oc_cat (big (by simp only [List.length_cons, List.length_nil]; omega)) ?_
    walk_at "w"
    rw [cutD_from]
    refine oc_cat (big (by simp only [List.length_cons, List.length_nil, List.length_append]; omega)) ?_
    walk_at "w"
    refine cc_pickD (ds := oddK ws.length ks) T C (by decide) nO lO fun d2 hd2 => ?_
    walk_at "w"
    refine oc_cat (big (by simp only [List.length_cons, List.length_nil, List.length_append]; omega)) ?_
    obtain ⟨sp, hsp⟩ : ∃ sp, sp = List.take m (nats ks) ++ [d1] ++ List.drop m (nats ks) ++ [d2] := ⟨_, rfl⟩
    rw [← hsp]
    have gS : ∀ d ∈ sp, TyI K d ∧ Gd d := fun d hd => by
      rw [hsp] at hd
      rcases List.mem_append.mp hd with hd | hd
      · rcases List.mem_append.mp hd with hd | hd
        · rcases List.mem_append.mp hd with hd | hd
          · exact gN d (List.mem_of_mem_take hd)
          · rw [List.mem_singleton.mp hd]; exact gO d1 hd1
        · exact gN d (List.mem_of_mem_drop hd)
      · rw [List.mem_singleton.mp hd]; exact gO d2 hd2
    have lS : sp.length ≤ 30 := by rw [hsp]; simp only [List.length_append, List.length_cons, List.length_nil]; omega
    clear hsp
    walk_at "w"
    rw [l1]
    refine cc_fn0 C (ox_wrong T) (by decide) T.b_l_wrong ⟨sp, ws.length, rfl, big (by omega), fun p hp => (gS p hp).1, fun hn => ?_, fun j hj => ?_⟩
    · obtain ⟨hall, hlen⟩ := wrongF_all hn
      have okS : outOk (.row (keptW ws sp)) := ⟨keptW_ok hws hall, by unfold keptW; rw [List.length_map]; omega⟩
      walk_at "w"
      refine cc_reprGd T C (fun d hd => (gS d hd).2) (by omega) ?_
      walk_at "w"
      refine ⟨rfl, ?_⟩
      walk_at "w"
      refine told_lam T (.row (keptW ws sp)) okS (fun Y M' Q0 E0 C z => ?_) ?_
      · exact we_mu (we_v rfl ⟨_, mt_row T C T.me_Row_kept (by decide), wa_cons (we_v rfl (wa_nil (cc_fn0 C (ox_kept T) (by decide) T.b_Row_kept ⟨ws, _, rfl, hws, by omega, tyL rfl, .inr ⟨sp, .inl rfl, big (by omega), fun p hp => (gS p hp).1, fun _ => z, fun j hj => by rw [hn] at hj; cases hj⟩⟩)))⟩)
      walk_at "w"
      refine oc_isN rfl ?_
      walk_at "w"
      refine k_T ?_
      walk_at "w"
      refine we_lc (wi_l ?_)
      walk_at "w"
      refine ⟨big (by omega), k_map (fun p => D.str (ws.getD (numD p).toNat "")) (fun p hp => ⟨[p], rfl, ?_⟩) ?_⟩
      · obtain ⟨j, rfl, hj⟩ := hall p hp
        walk_at "w"
        exact xc_lst (at_word hj) ⟨rfl, rfl⟩
      walk_at "w"
      rw [show (sp.map fun p => D.str (ws.getD (numD p).toNat "")) = D.strs (keptW ws sp) from by unfold D.strs keptW; rw [List.map_map]; rfl]
      walk_at "w"
      refine oc_eqS C (d := resD (.row (keptW ws sp))) rfl rfl (by simp only [resD, eqbs, Wx.eqb, eqbs_strs, Bool.and_self]) (by have := dpts_strs (keptW ws sp); simp only [resD, dpts, dpt]; omega) rfl ?_
      walk_at "w"
      refine k_T ?_
      walk_at "w"
      refine cc_reprGd T C (fun d hd => (gS d hd).2) (by omega) ?_
      walk_at "w"
      rw [decide_eq_true rfl]
      exact ⟨M, _, .sub .refl (List.sublist_cons_self _ _), hq⟩
    · walk_at "w"
      refine cc_reprGd T C (fun d hd => (gS d hd).2) (by omega) ?_
      walk_at "w"
      refine ⟨rfl, ?_⟩
      walk_at "w"
      refine told_lam T (.pos (.int (j : Int))) trivial (fun Y M' Q0 E0 C z => ?_) ?_
      · exact we_mu (we_v rfl ⟨_, mt_row T C T.me_Row_kept (by decide), wa_cons (we_v rfl (wa_nil (cc_fn0 C (ox_kept T) (by decide) T.b_Row_kept ⟨ws, _, rfl, hws, by omega, tyL rfl, .inr ⟨sp, .inl rfl, big (by omega), fun p hp => (gS p hp).1, fun hn => (by rw [hn] at hj; cases hj), fun i hi => (by rw [hj] at hi; cases hi; exact z)⟩⟩)))⟩)
      walk_at "w"
      refine oc_isN rfl ?_
      walk_at "w"
      refine k_F ?_
      walk_at "w"
      refine oc_eqS C (d := resD (.pos (.int (j : Int)))) rfl rfl (by simp [resD, Wx.eqb, eqbs]) (by simp [resD, dpt, dpts]) rfl ?_
      walk_at "w"
      refine k_T ?_
      walk_at "w"
      refine cc_reprGd T C (fun d hd => (gS d hd).2) (by omega) ?_
      walk_at "w"
      rw [decide_eq_true rfl]
      exact ⟨M, _, .sub .refl (List.sublist_cons_self _ _), hq⟩
end
end Fk
set_option Elab.async false
set_option linter.all false
set_option maxRecDepth 100000
set_option maxHeartbeats 4000000
local macro_rules | `(tactic| walk_at "w") => `(tactic| repeat (first
  | ((with_reducible show Wx.wE _ _ _ (Wx.IE.v _) _ _ _ _); refine Wx.we_v rfl ?_)
  | (with_reducible first | refine Wx.wa_cons ?_ | refine Wx.wa_nil ?_ | refine Wx.wb_cons ?_ | refine Wx.wb_nil ?_ | refine Wx.we_cmp ?_ | refine Wx.we_bin ?_ | refine Wx.we_int ?_ | refine Wx.we_str ?_ | refine Wx.we_bl ?_ | refine Wx.we_non ?_ | refine Wx.we_cu ?_ | refine Wx.we_cb ?_ | refine Wx.we_ct ?_ | refine Wx.we_cuk ?_ | refine Wx.we_lst ?_ | refine Wx.we_tup ?_ | refine Wx.we_ix ?_ | refine Wx.we_sl ?_ | refine Wx.we_rev ?_ | refine Wx.we_att ?_ | refine Wx.we_not ?_ | refine Wx.we_and ?_ | refine Wx.we_or ?_ | refine Wx.we_un ?_ | refine Wx.we_ite ?_ | refine Wx.we_cm2 ?_ | refine Wx.we_dic0 ?_ | refine Wx.we_mu ?_ | refine Wx.we_mb ?_ | refine Wx.we_isT ?_ | refine Wx.we_muk ?_ | refine Wx.we_olst ?_ | refine Wx.we_oli ?_ | refine Wx.we_odic ?_)
  | (with_reducible first | refine Wx.wo_nil ?_ | refine Wx.wo_some ?_ | refine Wx.wand_1 ?_ | refine Wx.wand_2 ?_ | refine Wx.wor_1 ?_ | refine Wx.wor_2 ?_ | refine Wx.wt_not ?_ | refine Wx.wt_and ?_ | refine Wx.wt_or ?_ | refine Wx.wt_cmp ?_ | refine Wx.wt_cm2 ?_ | refine Wx.wtand_1 ?_ | refine Wx.wtand_2 ?_ | refine Wx.wtor_1 ?_ | refine Wx.wtor_2 ?_ | refine Wx.wts_nil ?_ | refine Wx.wts_1 ?_ | refine Wx.ws_set ?_ | refine Wx.ws_ret ?_ | refine Wx.ws_ret0 ?_ | refine Wx.ws_unp ?_ | refine Wx.ws_par ?_ | refine Wx.ws_drop ?_ | refine Wx.ws_ife ?_ | refine Wx.ws_pass ?_ | refine Wx.ws_brk ?_ | refine Wx.ws_cont ?_ | refine Wx.wi_ra ?_ | refine Wx.wi_zi ?_)
  | (with_reducible first | refine Wx.k_bl ?_ | refine Wx.k_lst ?_ | refine Wx.k_tup ?_ | refine Wx.k_str ?_ | refine Wx.k_int ?_ | refine Wx.k_zip ?_)
  | (with_reducible first | refine Wx.pc_tup ?_)
  | ((with_reducible refine Wx.k_len ?wh ?_); (case wh => rfl))
  | ((with_reducible refine Wx.wt_val ?wh ?_); (case wh => rfl))
  | (with_reducible first | refine Wx.oc_add ?_ | refine Wx.oc_sub ?_ | refine Wx.oc_lt ?_ | refine Wx.oc_le ?_ | refine Wx.oc_gt ?_ | refine Wx.oc_ge ?_ | refine Wx.oc_eqI ?_ | refine Wx.oc_neI ?_ | refine Wx.oc_eqT ?_ | refine Wx.oc_neT ?_ | refine Wx.oc_eqB ?_ | refine Wx.oc_neB ?_ | refine Wx.oc_isB ?_ | refine Wx.oc_notB ?_ | refine Wx.cc_lenL ?_ | refine Wx.cc_lenT ?_ | refine Wx.cc_listL ?_ | refine Wx.cc_listT ?_ | refine Wx.cc_tupL ?_ | refine Wx.cc_tupT ?_ | refine Wx.cc_int ?_ | refine Wx.cc_intB ?_ | refine Wx.cc_max ?_ | refine Wx.cc_min ?_ | refine Wx.cc_abs ?_ | refine Wx.pc_l ?_ | refine Wx.cc_all ?_ | refine Wx.cc_any ?_)))
/-! Law k13: _law_right, law. -/
namespace Fk
open PySem L2 Fx Wx
theorem strs_of : ∀ {es : List D}, (∀ e ∈ es, ∃ z, e = .str z) → ∃ us : List Str, es = D.strs us
  | [], _ => ⟨[], rfl⟩
  | e :: es, h => by
    obtain ⟨z, rfl⟩ := h e List.mem_cons_self
    obtain ⟨us, rfl⟩ := strs_of fun e he => h e (List.mem_cons_of_mem _ he)
    exact ⟨z :: us, rfl⟩
theorem all_es {α β : Type} {ds : List α} {es : List β} {R : α → β → Prop} (hl : es.length = ds.length) (h : ∀ (i : Nat) (d : α), ds[i]? = some d → ∃ e, es[i]? = some e ∧ R d e) : ∀ e ∈ es, ∃ d ∈ ds, R d e := fun e he => by
  obtain ⟨i, hi⟩ := List.getElem?_of_mem he
  have hlt : i < ds.length := by
    by_cases h : i < es.length
    · omega
    · rw [List.getElem?_eq_none (by omega)] at hi; cases hi
  obtain ⟨e', h1, h2⟩ := h i ds[i] (List.getElem?_eq_getElem hlt)
  rw [hi] at h1
  cases h1
  exact ⟨_, List.getElem_mem hlt, h2⟩
section
variable {P : Program} {w : World} {K : PySem.W.Frag} {mg : Str → Option Value} {base : Heap}
theorem ox_right (T : Tx K mg) (B : Tbs T base) : FnX P w K mg base (tbl T) 8 T.a_l_right T.d_l_right ["_law_pot_here"] (fun ds M Q E => ds = [.pot] ∧ Q (.bl true) M) :=
  fnX_of (Fun.toA T.f_l_right) sc_l_right (gl_ok T) ck_l_right (fun ds M Q E ⟨q, _⟩ => by rw [q]; rfl) fun Y ds M Q E C hp => by
    obtain ⟨rfl, hq⟩ := hp
    show wB Y (tbl T) (gm0 (gam T)) ir_l_right [some .pot, none, none, none, none, none, none] M _
    unfold ir_l_right
    walk_at "w"
    refine cc_draw T C (by decide) (by decide) (by decide) fun m hm => ?_
    walk_at "w"
    rw [show (1 + (m : Int)) = ((1 + m : Nat) : Int) from by omega]
    refine cc_old C (ok_labels T) (by decide) T.b_l_labels ⟨1 + m, rfl, by omega⟩ ?_
    rintro d ⟨ls, rfl, e, hls, _⟩
    injection e with _ e
    injection e with e _
    injection e with e
    have hll : ls.length = 1 + m := by omega
    have hne : ls ≠ [] := fun z => by rw [z] at hll; simp at hll; omega
    refine wb_cons (ws_for ?_)
    walk_at "w"
    refine ⟨by decide, fun _ l1 M1 => M1 = M ∧ ∃ a b c d e, l1 = [some .pot, some (.lst (D.strs ls)), a, b, c, d, e], ⟨rfl, none, none, none, none, none, rfl⟩, ?_, ?_⟩
    · rintro i x l2 M2 hx ⟨rfl, a, b, c, d, e, rfl⟩
      refine ⟨[x], rfl, ?_⟩
      walk_at "w"
      refine we_lc ?_
      walk_at "w"
      refine cc_draw T C (by decide) (by decide) (by decide) fun n hn => ?_
      walk_at "w"
      have hun : (Fx.upTo (n : Int).toNat).length = n := by rw [upTo_length]; omega
      refine ⟨by omega, big (by omega), k_rel (fun _ e => ∃ z, e = .str z ∧ z ∈ ls) (fun d hd => ⟨[d], rfl, ?_⟩) fun es hl2 hes => ?_⟩
      · walk_at "w"
        exact cc_pick T C (by decide) hne (by omega) fun a ha => ⟨rfl, a, rfl, ha⟩
      have hall := all_es hl2 hes
      obtain ⟨ws, rfl⟩ := strs_of fun e he => let ⟨_, _, z, h, _⟩ := hall e he; ⟨z, h⟩
      have l1 : ∀ l : List Str, (D.strs l).length = l.length := fun l => List.length_map _
      have hwl : ws.length ≤ 12 := by rw [hun, l1] at hl2; omega
      have hws : ∀ z ∈ ws, Nm z := fun z hz => by
        obtain ⟨_, _, z', h, h2⟩ := hall (.str z) (List.mem_map.mpr ⟨z, hz, rfl⟩)
        injection h with h
        rw [h]
        exact hls z' h2
      have nt : ∀ n, ∀ z ∈ ws.take n, Nm z := fun n z hz => hws z (List.mem_of_mem_take hz)
      have ndr : ∀ n, ∀ z ∈ ws.drop n, Nm z := fun n z hz => hws z (List.mem_of_mem_drop hz)
      have lt : ∀ n, (ws.take n).length ≤ 12 := fun n => by rw [List.length_take]; omega
      have ld : ∀ n, (ws.drop n).length ≤ 12 := fun n => by rw [List.length_drop]; omega
      walk_at "w"
      refine cc_row T C (by decide) hws (by omega) ?_
      walk_at "w"
      refine cc_fn0 C (ox_ends T) (by decide) T.b_l_ends_right ⟨ws, rfl, hws, hwl, ?_⟩
      walk_at "w"
      refine k_FT ?_
      walk_at "w"
      refine cc_fn0 C (ox_counts_right T B) (by decide) T.b_l_counts_right ⟨ws, rfl, hws, hwl, ?_⟩
      walk_at "w"
      refine k_F ?_
      walk_at "w"
      refine cc_fn0 C (ox_kept_right T B) (by decide) T.b_l_kept_right ⟨ws, rfl, hws, hwl, ?_⟩
      walk_at "w"
      refine k_FT ?_
      walk_at "w"
      refine cc_fn0 C (ox_no_lists T B) (by decide) T.b_l_no_lists_right ⟨ws, rfl, hws, hwl, ?_⟩
      walk_at "w"
      refine k_F ?_
      refine wb_cons (ws_for ?_)
      walk_at "w"
      rw [l1, Int.toNat_natCast]
      refine ⟨by omega, fun _ l1 M1 => M1 = M2 ∧ ∃ d e, l1 = [some .pot, some (.lst (D.strs ls)), some x, some (.lst (D.strs ws)), some (rowD T.C_Row ws), d, e], ⟨rfl, _, _, rfl⟩, ?_, ?_⟩
      · rintro j y l3 M3 hy ⟨rfl, d, e, rfl⟩
        obtain ⟨hj, rfl⟩ := upTo_inv hy
        have hg : ∀ z ∈ ws.take j ++ ws.drop (j + 1), Nm z := fun z hz => by
          rcases List.mem_append.mp hz with z1 | z1
          · exact nt _ z z1
          · exact ndr _ z z1
        have hgl : (ws.take j ++ ws.drop (j + 1)).length ≤ 400 := by have := lt j; have := ld (j + 1); rw [List.length_append]; omega
        refine ⟨_, rfl, ?_⟩
        walk_at "w"
        rw [cut_to ws (by omega), cut_from ws (by omega)]
        refine oc_cat (by rw [l1, l1]; exact big (by have := lt (j : Int).toNat; have := ld ((j : Int) + 1).toNat; omega)) ?_
        rw [show D.strs (ws.take (j : Int).toNat) ++ D.strs (ws.drop ((j : Int) + 1).toNat) = D.strs (ws.take j ++ ws.drop (j + 1)) from by unfold D.strs; rw [List.map_append]; rfl]
        walk_at "w"
        refine ⟨_, mt_row T C T.me_Row_without (by decide), ?_⟩
        walk_at "w"
        refine cc_fn0 C (ox_without T) (by decide) T.b_Row_without (sp_without T hws (by omega) hj ?_)
        refine ac_nm T C (by decide) hg hgl ?_
        walk_at "w"
        refine oc_neTs C (fun z hz => nm_ok (hg z hz)) (fun z hz => nm_ok (hg z hz)) ?_
        walk_at "w"
        rw [decide_eq_true rfl]
        refine k_FT ?_
        walk_at "w"
        refine ⟨_, mt_row T C T.me_Row_without (by decide), ?_⟩
        walk_at "w"
        refine ck_fn C (ox_without T) (by decide) T.bk_Row_without rfl rfl (sp_without T hws (by omega) hj ?_)
        walk_at "w"
        refine ⟨_, mt_row T C T.me_Row_first (by decide), ?_⟩
        walk_at "w"
        refine cc_fn0 C (ox_first T) (by decide) T.b_Row_first (sp_first T hws (by omega) (by omega) ?_)
        walk_at "w"
        refine ⟨_, mt_row T C T.me_Row_after (by decide), ?_⟩
        walk_at "w"
        rw [show ((j : Int) + 1) = ((j + 1 : Nat) : Int) from by omega]
        refine cc_fn0 C (ox_after T) (by decide) T.b_Row_after (sp_first T hws (by omega) (by omega) ?_)
        refine oc_join T C (by decide) (nt j) (ndr _) (by have := lt j; have := ld (j + 1); omega) ?_
        refine oc_neSame T C (by decide) hg rfl ?_
        walk_at "w"
        refine k_F ?_
        walk_at "w"
        exact ⟨rfl, _, _, rfl⟩
      · rintro l3 M3 ⟨rfl, d, e, rfl⟩
        walk_at "w"
        refine ac_nm T C (by decide) hws (by omega) ?_
        walk_at "w"
        refine oc_neTs C (fun z hz => nm_ok (hws z hz)) (fun z hz => nm_ok (hws z hz)) ?_
        walk_at "w"
        rw [decide_eq_true rfl]
        refine k_FT ?_
        walk_at "w"
        refine ⟨_, mt_row T C T.me_Row_kept (by decide), ?_⟩
        refine wa_cons (we_pr (wa_cons ?_))
        walk_at "w"
        refine ⟨ws.length, by rw [l1], by omega, ?_⟩
        walk_at "w"
        have up : (List.range ws.length).Pairwise (· < ·) := List.pairwise_lt_range
        have hr : ∀ j ∈ List.range ws.length, j < ws.length := fun j h => List.mem_range.mp h
        have eR : keptW ws (nats (List.range ws.length)) = ws := by
          rw [keptW_nats]
          refine List.ext_getElem (by rw [List.length_map, List.length_range]) fun i h1 h2 => ?_
          rw [List.getElem_map, List.getElem_range, List.getD_eq_getElem?_getD, List.getElem?_eq_getElem h2]
          rfl
        refine cc_fn0 C (ox_kept T) (by decide) T.b_Row_kept (sp_keptN (ks := List.range ws.length) T hws hwl up hr (.inl rfl) ?_)
        rw [eR]
        walk_at "w"
        refine oc_neSame T C (by decide) hws rfl ?_
        walk_at "w"
        refine k_FT ?_
        walk_at "w"
        refine ⟨_, mt_row T C T.me_Row_kept (by decide), ?_⟩
        walk_at "w"
        refine cc_fn0 C (ox_kept T) (by decide) T.b_Row_kept (sp_keptN (ks := []) T hws hwl List.Pairwise.nil (fun _ z => nomatch z) (.inl rfl) ?_)
        walk_at "w"
        refine cc_row0 T C (by decide) ?_
        refine oc_neSame T C (by decide) (fun z hz => nomatch hz) rfl ?_
        walk_at "w"
        refine k_F ?_
        walk_at "w"
        exact ⟨rfl, _, _, _, _, _, rfl⟩
    · rintro l2 M2 ⟨rfl, a, b, c, d, e, rfl⟩
      walk_at "w"
      exact fz_q hq
theorem ox_law (T : Tx K mg) (B : Tbs T base) : FnX P w K mg base (tbl T) 9 T.a_law T.d_law ["_law_script"] (spE (fun ds => ∃ ns : List Int, ds = [.scr ns] ∧ ns.length ≤ 63) (fun _ d => d = .bl true)) :=
  fnX_of (Fun.toA T.f_law) sc_law (gl_ok T) ck_law (fun ds M Q E ⟨_, ⟨_, q, _⟩, _⟩ => by rw [q]; rfl) fun Y ds M Q E C ⟨hM, hp, hq⟩ => by
    subst hM
    obtain ⟨ns, rfl, hn⟩ := hp
    show wB Y (tbl T) (gm0 (gam T)) ir_law [some (.scr ns), none] [] _
    unfold ir_law
    walk_at "w"
    refine we_lc ?_
    walk_at "w"
    refine cc_lenSc ?_
    walk_at "w"
    generalize hm : (if (if ((ns.length : Nat) : Int) < 5 then ((ns.length : Nat) : Int) else 5) > 1 then (if ((ns.length : Nat) : Int) < 5 then ((ns.length : Nat) : Int) else 5) else 1) = m
    have hm5 : 1 ≤ m ∧ m ≤ 5 := by
      subst hm
      constructor <;> (repeat' split) <;> omega
    refine ⟨by omega, big (by rw [upTo_length]; omega), k_map (fun _ => .bl true) (fun d hd => ⟨[d], rfl, ?_⟩) ?_⟩
    · obtain ⟨j, hj, rfl⟩ := List.mem_map.mp hd
      have hj := List.mem_range.mp hj
      walk_at "w"
      refine cc_old C (ok_pot T) (by decide) T.b_l_pot ⟨ns, j, rfl, by omega, by omega⟩ fun d e => ?_
      subst e
      walk_at "w"
      exact cc_fn0 C (ox_right T B) (by decide) T.b_l_right ⟨rfl, ⟨rfl, rfl⟩⟩
    rw [show (Fx.upTo m.toNat).map (fun _ => D.bl true) = D.bls ((List.range m.toNat).map fun _ => true) from by unfold Fx.upTo D.bls; rw [List.map_map, List.map_map]; rfl]
    walk_at "w"
    refine fz_q (hq _ ?_)
    rw [show ((List.range m.toNat).map fun _ => true).all id = true from by simp]
end
end Fk
set_option Elab.async false
set_option linter.all false
set_option maxRecDepth 100000
set_option maxHeartbeats 4000000
/-! Law k13: the head. -/
namespace Fk
open PySem L2 Fx
def dfs : List Hd.Df := [⟨.glo "is_integer", "is_integer", "is_integer", s_is_integer, false⟩,
  ⟨.glo "is_count", "is_count", "is_count", s_is_count, false⟩,
  ⟨.glo "is_list", "is_list", "is_list", s_is_list, false⟩,
  ⟨.glo "is_name", "is_name", "is_name", s_is_name, false⟩,
  ⟨.glo "want_few_runs", "want_few_runs", "want_few_runs", s_want_few_runs, false⟩,
  ⟨.glo "_law_pot", "_law_pot", "_law_pot", s_l_pot, false⟩,
  ⟨.glo "_law_draw", "_law_draw", "_law_draw", s_l_draw, false⟩,
  ⟨.glo "_law_pick", "_law_pick", "_law_pick", s_l_pick, false⟩,
  ⟨.glo "_law_labels", "_law_labels", "_law_labels", s_l_labels, false⟩,
  ⟨.glo "_law_told", "_law_told", "_law_told", s_l_told, false⟩,
  ⟨.glo "_law_ends_right", "_law_ends_right", "_law_ends_right", s_l_ends_right, false⟩,
  ⟨.glo "_law_counts_right", "_law_counts_right", "_law_counts_right", s_l_counts_right, false⟩,
  ⟨.glo "_law_wrong", "_law_wrong", "_law_wrong", s_l_wrong, false⟩,
  ⟨.glo "_law_kept_right", "_law_kept_right", "_law_kept_right", s_l_kept_right, false⟩,
  ⟨.glo "_law_no_lists_right", "_law_no_lists_right", "_law_no_lists_right", s_l_no_lists_right, false⟩,
  ⟨.glo "_law_right", "_law_right", "_law_right", s_l_right, false⟩,
  ⟨.glo "law", "law", "law", s_law, false⟩,
  ⟨.meth "Row" "__init__", "__init__", "Row.__init__", s_Row_init, true⟩,
  ⟨.prop "Row" "names", "names", "Row.names", s_Row_names, false⟩,
  ⟨.meth "Row" "want_many", "want_many", "Row.want_many", s_Row_want_many, false⟩,
  ⟨.meth "Row" "want_position", "want_position", "Row.want_position", s_Row_want_position, false⟩,
  ⟨.meth "Row" "first", "first", "Row.first", s_Row_first, false⟩,
  ⟨.meth "Row" "after", "after", "Row.after", s_Row_after, false⟩,
  ⟨.meth "Row" "without", "without", "Row.without", s_Row_without, false⟩,
  ⟨.meth "Row" "kept", "kept", "Row.kept", s_Row_kept, false⟩,
  ⟨.meth "Row" "__add__", "__add__", "Row.__add__", s_Row_add, false⟩,
  ⟨.meth "Row" "__invert__", "__invert__", "Row.__invert__", s_Row_invert, false⟩,
  ⟨.meth "Row" "__eq__", "__eq__", "Row.__eq__", s_Row_eq, false⟩,
  ⟨.meth "InvalidCount" "__init__", "__init__", "InvalidCount.__init__", s_InvalidCount_init, false⟩,
  ⟨.meth "InvalidPosition" "__init__", "__init__", "InvalidPosition.__init__", s_InvalidPosition_init, false⟩,
  ⟨.meth "InvalidPositions" "__init__", "__init__", "InvalidPositions.__init__", s_InvalidPositions_init, false⟩]
def exL : List (PySem.W.Frag → Bool) := [fun K => Hd.gloB K "is_integer",
  fun K => Hd.gloB K "is_count",
  fun K => Hd.gloB K "is_list",
  fun K => Hd.gloB K "is_name",
  fun K => Hd.gloB K "want_few_runs",
  fun K => Hd.gloB K "_law_pot",
  fun K => Hd.gloB K "_law_draw",
  fun K => Hd.gloB K "_law_pick",
  fun K => Hd.gloB K "_law_labels",
  fun K => Hd.gloB K "_law_told",
  fun K => Hd.gloB K "_law_ends_right",
  fun K => Hd.gloB K "_law_counts_right",
  fun K => Hd.gloB K "_law_wrong",
  fun K => Hd.gloB K "_law_kept_right",
  fun K => Hd.gloB K "_law_no_lists_right",
  fun K => Hd.gloB K "_law_right",
  fun K => Hd.gloB K "law",
  fun K => Hd.dflB K (He.ma K (He.ga K "Row") "__init__") [.ref (Hd.dfl1 K (He.ma K (He.ga K "Row") "__init__"))],
  fun K => Hd.tup0B K (Hd.dfl1 K (He.ma K (He.ga K "Row") "__init__")),
  fun K => Hd.gloB K "Row",
  fun K => Hd.ownB K (He.ga K "Row"),
  fun K => PySem.W.selfFirst K (He.ga K "Row"),
  fun K => Hd.mkB K (He.ga K "Row") (He.ma K (He.ga K "Row") "__init__"),
  fun K => Hd.prB K (He.ga K "Row") "names",
  fun K => Hd.meB K (He.ga K "Row") "want_many" (He.ma K (He.ga K "Row") "want_many"),
  fun K => Hd.meB K (He.ga K "Row") "want_position" (He.ma K (He.ga K "Row") "want_position"),
  fun K => Hd.meB K (He.ga K "Row") "first" (He.ma K (He.ga K "Row") "first"),
  fun K => Hd.meB K (He.ga K "Row") "after" (He.ma K (He.ga K "Row") "after"),
  fun K => Hd.meB K (He.ga K "Row") "without" (He.ma K (He.ga K "Row") "without"),
  fun K => Hd.meB K (He.ga K "Row") "kept" (He.ma K (He.ga K "Row") "kept"),
  fun K => Hd.meB K (He.ga K "Row") "__add__" (He.ma K (He.ga K "Row") "__add__"),
  fun K => Hd.meB K (He.ga K "Row") "__invert__" (He.ma K (He.ga K "Row") "__invert__"),
  fun K => Hd.meB K (He.ga K "Row") "__eq__" (He.ma K (He.ga K "Row") "__eq__"),
  fun K => Hd.noF K (He.ga K "Row") "own_names",
  fun K => Hd.rdB K (He.ga K "Row"),
  fun K => Hd.isF K (.ref (He.ga K "Row")) "__ne__" (.builtin "object.__ne__"),
  fun K => Hd.noSubB K (He.ga K "Row"),
  fun K => decide (PySem.W.subIn K (.ref (He.ga K "Row")) (.type "str") = some false),
  fun K => PySem.W.isClsIn K (He.ga K "Row"),
  fun K => decide (PySem.W.typeIn K (.ref (He.ga K "Row")) = some (.type "type")),
  fun K => Hd.errB K "InvalidCount" "value",
  fun K => Hd.xcB K (He.ga K "InvalidCount"),
  fun K => Hd.errB K "InvalidPosition" "value",
  fun K => Hd.xcB K (He.ga K "InvalidPosition"),
  fun K => Hd.errB K "InvalidPositions" "position",
  fun K => Hd.xcB K (He.ga K "InvalidPositions"),
  fun K => Hd.gloB K "FixError",
  fun K => decide (PySem.W.exmOne K (.ref (He.ga K "InvalidCount")) (.ref (He.ga K "InvalidCount")) = some true),
  fun K => decide (PySem.W.kitOne K (.ref (He.ga K "InvalidCount")) (.ref (He.ga K "InvalidCount")) = some true),
  fun K => decide (PySem.W.exmOne K (.ref (He.ga K "InvalidCount")) (.ref (He.ga K "InvalidPosition")) = some false),
  fun K => decide (PySem.W.kitOne K (.ref (He.ga K "InvalidCount")) (.ref (He.ga K "InvalidPosition")) = some false),
  fun K => decide (PySem.W.exmOne K (.ref (He.ga K "InvalidCount")) (.ref (He.ga K "InvalidPositions")) = some false),
  fun K => decide (PySem.W.kitOne K (.ref (He.ga K "InvalidCount")) (.ref (He.ga K "InvalidPositions")) = some false),
  fun K => decide (PySem.W.exmOne K (.ref (He.ga K "InvalidCount")) (.ref (He.ga K "FixError")) = some true),
  fun K => decide (PySem.W.kitOne K (.ref (He.ga K "InvalidCount")) (.ref (He.ga K "FixError")) = some true),
  fun K => decide (PySem.W.exmOne K (.ref (He.ga K "InvalidPosition")) (.ref (He.ga K "InvalidCount")) = some false),
  fun K => decide (PySem.W.kitOne K (.ref (He.ga K "InvalidPosition")) (.ref (He.ga K "InvalidCount")) = some false),
  fun K => decide (PySem.W.exmOne K (.ref (He.ga K "InvalidPosition")) (.ref (He.ga K "InvalidPosition")) = some true),
  fun K => decide (PySem.W.kitOne K (.ref (He.ga K "InvalidPosition")) (.ref (He.ga K "InvalidPosition")) = some true),
  fun K => decide (PySem.W.exmOne K (.ref (He.ga K "InvalidPosition")) (.ref (He.ga K "InvalidPositions")) = some false),
  fun K => decide (PySem.W.kitOne K (.ref (He.ga K "InvalidPosition")) (.ref (He.ga K "InvalidPositions")) = some false),
  fun K => decide (PySem.W.exmOne K (.ref (He.ga K "InvalidPosition")) (.ref (He.ga K "FixError")) = some true),
  fun K => decide (PySem.W.kitOne K (.ref (He.ga K "InvalidPosition")) (.ref (He.ga K "FixError")) = some true),
  fun K => decide (PySem.W.exmOne K (.ref (He.ga K "InvalidPositions")) (.ref (He.ga K "InvalidCount")) = some false),
  fun K => decide (PySem.W.kitOne K (.ref (He.ga K "InvalidPositions")) (.ref (He.ga K "InvalidCount")) = some false),
  fun K => decide (PySem.W.exmOne K (.ref (He.ga K "InvalidPositions")) (.ref (He.ga K "InvalidPosition")) = some false),
  fun K => decide (PySem.W.kitOne K (.ref (He.ga K "InvalidPositions")) (.ref (He.ga K "InvalidPosition")) = some false),
  fun K => decide (PySem.W.exmOne K (.ref (He.ga K "InvalidPositions")) (.ref (He.ga K "InvalidPositions")) = some true),
  fun K => decide (PySem.W.kitOne K (.ref (He.ga K "InvalidPositions")) (.ref (He.ga K "InvalidPositions")) = some true),
  fun K => decide (PySem.W.exmOne K (.ref (He.ga K "InvalidPositions")) (.ref (He.ga K "FixError")) = some true),
  fun K => decide (PySem.W.kitOne K (.ref (He.ga K "InvalidPositions")) (.ref (He.ga K "FixError")) = some true),
  fun K => decide (PySem.W.kitAny K (.ref (He.ga K "InvalidCount")) [.ref (He.ga K "InvalidPosition"), .ref (He.ga K "InvalidPositions")] = some false),
  fun K => decide (PySem.W.kitAny K (.ref (He.ga K "InvalidPositions")) [.ref (He.ga K "InvalidPosition"), .ref (He.ga K "InvalidCount")] = some false),
  fun K => decide (PySem.W.kitAny K (.ref (He.ga K "Row")) [.type "list", .type "tuple"] = some false),
  fun K => Wx.smB K,
  fun K => Hd.freeB K "isinstance",
  fun K => Hd.freeB K "list",
  fun K => Hd.freeB K "tuple",
  fun K => Hd.freeB K "str",
  fun K => Hd.freeB K "len",
  fun K => Hd.freeB K "all",
  fun K => Hd.freeB K "enumerate",
  fun K => Hd.freeB K "abs",
  fun K => Hd.freeB K "max",
  fun K => Hd.freeB K "int",
  fun K => Hd.freeB K "divmod",
  fun K => Hd.freeB K "range",
  fun K => Hd.freeB K "min",
  fun K => Hd.freeB K "repr",
  fun K => Hd.freeB K "bool",
  fun K => Hd.strB K "LETTERS" "abcdefghijklmnopqrstuvwxyz",
  fun K => Hd.intB K "MOST_LETTERS" 8,
  fun K => Hd.intB K "MOST_RUNS" 400,
  fun K => decide (([He.ga K "_law_counts_right", He.ga K "_law_kept_right", He.ga K "_law_no_lists_right"].map fun a => He.tabOf K (Hd.codeA K a)).Nodup)]
def tfL : List Hd.Pth := [.glo "_law_counts_right", .glo "_law_kept_right", .glo "_law_no_lists_right"]
theorem tx_of {K : PySem.W.Frag} {h : Heap} {mg : Str → Option Value} (X : K.In h) (G : h.Ns mainGlobals mg) (c : Hd.Says dfs exL tfL h K) :
    ∃ T : Tx K mg, mg "law" = some (.ref T.a_law) ∧ T.cd_l_counts_right = Hd.codeA K (He.ga K "_law_counts_right") ∧ T.P_l_counts_right = He.tabOf K (Hd.codeA K (He.ga K "_law_counts_right")) ∧ T.cd_l_kept_right = Hd.codeA K (He.ga K "_law_kept_right") ∧ T.P_l_kept_right = He.tabOf K (Hd.codeA K (He.ga K "_law_kept_right")) ∧ T.cd_l_no_lists_right = Hd.codeA K (He.ga K "_law_no_lists_right") ∧ T.P_l_no_lists_right = He.tabOf K (Hd.codeA K (He.ga K "_law_no_lists_right")) := by
  have fc : ∀ (i : Nat) {f : PySem.W.Frag → Bool}, exL[i]? = some f → f K = true := fun i _ hi => c.fact i hi
  obtain ⟨oc_is_integer, od_is_integer, an_is_integer, sl_is_integer, dV_is_integer, kV_is_integer, dc_is_integer, pm_is_integer, cd_is_integer, ct_is_integer, l_is_integer, c_is_integer, k_is_integer, e_is_integer, w_is_integer⟩ := c.fn 0 rfl
  have e_is_integer : dV_is_integer = .none := e_is_integer rfl
  subst e_is_integer
  have F_is_integer := fun_mk (st := s_is_integer) l_is_integer c_is_integer k_is_integer
  have B_is_integer := F_is_integer.binds (ps := ["value"]) fun _ _ _ _ _ _ us hl => match us, hl with | [_], _ => rfl
  obtain ⟨oc_is_count, od_is_count, an_is_count, sl_is_count, dV_is_count, kV_is_count, dc_is_count, pm_is_count, cd_is_count, ct_is_count, l_is_count, c_is_count, k_is_count, e_is_count, w_is_count⟩ := c.fn 1 rfl
  have e_is_count : dV_is_count = .none := e_is_count rfl
  subst e_is_count
  have F_is_count := fun_mk (st := s_is_count) l_is_count c_is_count k_is_count
  have B_is_count := F_is_count.binds (ps := ["value"]) fun _ _ _ _ _ _ us hl => match us, hl with | [_], _ => rfl
  obtain ⟨oc_is_list, od_is_list, an_is_list, sl_is_list, dV_is_list, kV_is_list, dc_is_list, pm_is_list, cd_is_list, ct_is_list, l_is_list, c_is_list, k_is_list, e_is_list, w_is_list⟩ := c.fn 2 rfl
  have e_is_list : dV_is_list = .none := e_is_list rfl
  subst e_is_list
  have F_is_list := fun_mk (st := s_is_list) l_is_list c_is_list k_is_list
  have B_is_list := F_is_list.binds (ps := ["value"]) fun _ _ _ _ _ _ us hl => match us, hl with | [_], _ => rfl
  obtain ⟨oc_is_name, od_is_name, an_is_name, sl_is_name, dV_is_name, kV_is_name, dc_is_name, pm_is_name, cd_is_name, ct_is_name, l_is_name, c_is_name, k_is_name, e_is_name, w_is_name⟩ := c.fn 3 rfl
  have e_is_name : dV_is_name = .none := e_is_name rfl
  subst e_is_name
  have F_is_name := fun_mk (st := s_is_name) l_is_name c_is_name k_is_name
  have B_is_name := F_is_name.binds (ps := ["value"]) fun _ _ _ _ _ _ us hl => match us, hl with | [_], _ => rfl
  obtain ⟨oc_want_few_runs, od_want_few_runs, an_want_few_runs, sl_want_few_runs, dV_want_few_runs, kV_want_few_runs, dc_want_few_runs, pm_want_few_runs, cd_want_few_runs, ct_want_few_runs, l_want_few_runs, c_want_few_runs, k_want_few_runs, e_want_few_runs, w_want_few_runs⟩ := c.fn 4 rfl
  have e_want_few_runs : dV_want_few_runs = .none := e_want_few_runs rfl
  subst e_want_few_runs
  have F_want_few_runs := fun_mk (st := s_want_few_runs) l_want_few_runs c_want_few_runs k_want_few_runs
  have B_want_few_runs := F_want_few_runs.binds (ps := ["many"]) fun _ _ _ _ _ _ us hl => match us, hl with | [_], _ => rfl
  obtain ⟨oc_l_pot, od_l_pot, an_l_pot, sl_l_pot, dV_l_pot, kV_l_pot, dc_l_pot, pm_l_pot, cd_l_pot, ct_l_pot, l_l_pot, c_l_pot, k_l_pot, e_l_pot, w_l_pot⟩ := c.fn 5 rfl
  have e_l_pot : dV_l_pot = .none := e_l_pot rfl
  subst e_l_pot
  have F_l_pot := fun_mk (st := s_l_pot) l_l_pot c_l_pot k_l_pot
  have B_l_pot := F_l_pot.binds (ps := ["_law_script", "_law_k"]) fun _ _ _ _ _ _ us hl => match us, hl with | [_, _], _ => rfl
  obtain ⟨oc_l_draw, od_l_draw, an_l_draw, sl_l_draw, dV_l_draw, kV_l_draw, dc_l_draw, pm_l_draw, cd_l_draw, ct_l_draw, l_l_draw, c_l_draw, k_l_draw, e_l_draw, w_l_draw⟩ := c.fn 6 rfl
  have e_l_draw : dV_l_draw = .none := e_l_draw rfl
  subst e_l_draw
  have F_l_draw := fun_mk (st := s_l_draw) l_l_draw c_l_draw k_l_draw
  have B_l_draw := F_l_draw.binds (ps := ["_law_pot_here", "_law_sides"]) fun _ _ _ _ _ _ us hl => match us, hl with | [_, _], _ => rfl
  obtain ⟨oc_l_pick, od_l_pick, an_l_pick, sl_l_pick, dV_l_pick, kV_l_pick, dc_l_pick, pm_l_pick, cd_l_pick, ct_l_pick, l_l_pick, c_l_pick, k_l_pick, e_l_pick, w_l_pick⟩ := c.fn 7 rfl
  have e_l_pick : dV_l_pick = .none := e_l_pick rfl
  subst e_l_pick
  have F_l_pick := fun_mk (st := s_l_pick) l_l_pick c_l_pick k_l_pick
  have B_l_pick := F_l_pick.binds (ps := ["_law_pot_here", "_law_some"]) fun _ _ _ _ _ _ us hl => match us, hl with | [_, _], _ => rfl
  obtain ⟨oc_l_labels, od_l_labels, an_l_labels, sl_l_labels, dV_l_labels, kV_l_labels, dc_l_labels, pm_l_labels, cd_l_labels, ct_l_labels, l_l_labels, c_l_labels, k_l_labels, e_l_labels, w_l_labels⟩ := c.fn 8 rfl
  have e_l_labels : dV_l_labels = .none := e_l_labels rfl
  subst e_l_labels
  have F_l_labels := fun_mk (st := s_l_labels) l_l_labels c_l_labels k_l_labels
  have B_l_labels := F_l_labels.binds (ps := ["_law_pot_here", "_law_size"]) fun _ _ _ _ _ _ us hl => match us, hl with | [_, _], _ => rfl
  obtain ⟨oc_l_told, od_l_told, an_l_told, sl_l_told, dV_l_told, kV_l_told, dc_l_told, pm_l_told, cd_l_told, ct_l_told, l_l_told, c_l_told, k_l_told, e_l_told, w_l_told⟩ := c.fn 9 rfl
  have e_l_told : dV_l_told = .none := e_l_told rfl
  subst e_l_told
  have F_l_told := fun_mk (st := s_l_told) l_l_told c_l_told k_l_told
  have B_l_told := F_l_told.binds (ps := ["_law_call"]) fun _ _ _ _ _ _ us hl => match us, hl with | [_], _ => rfl
  obtain ⟨oc_l_ends_right, od_l_ends_right, an_l_ends_right, sl_l_ends_right, dV_l_ends_right, kV_l_ends_right, dc_l_ends_right, pm_l_ends_right, cd_l_ends_right, ct_l_ends_right, l_l_ends_right, c_l_ends_right, k_l_ends_right, e_l_ends_right, w_l_ends_right⟩ := c.fn 10 rfl
  have e_l_ends_right : dV_l_ends_right = .none := e_l_ends_right rfl
  subst e_l_ends_right
  have F_l_ends_right := fun_mk (st := s_l_ends_right) l_l_ends_right c_l_ends_right k_l_ends_right
  have B_l_ends_right := F_l_ends_right.binds (ps := ["_law_made", "_law_word"]) fun _ _ _ _ _ _ us hl => match us, hl with | [_, _], _ => rfl
  obtain ⟨oc_l_counts_right, od_l_counts_right, an_l_counts_right, sl_l_counts_right, dV_l_counts_right, kV_l_counts_right, dc_l_counts_right, pm_l_counts_right, cd_l_counts_right, ct_l_counts_right, l_l_counts_right, c_l_counts_right, k_l_counts_right, e_l_counts_right, w_l_counts_right⟩ := c.fn 11 rfl
  have e_l_counts_right : dV_l_counts_right = .none := e_l_counts_right rfl
  subst e_l_counts_right
  have F_l_counts_right := fun_mk (st := s_l_counts_right) l_l_counts_right c_l_counts_right k_l_counts_right
  have B_l_counts_right := F_l_counts_right.binds (ps := ["_law_pot_here", "_law_made", "_law_word"]) fun _ _ _ _ _ _ us hl => match us, hl with | [_, _, _], _ => rfl
  obtain ⟨oc_l_wrong, od_l_wrong, an_l_wrong, sl_l_wrong, dV_l_wrong, kV_l_wrong, dc_l_wrong, pm_l_wrong, cd_l_wrong, ct_l_wrong, l_l_wrong, c_l_wrong, k_l_wrong, e_l_wrong, w_l_wrong⟩ := c.fn 12 rfl
  have e_l_wrong : dV_l_wrong = .none := e_l_wrong rfl
  subst e_l_wrong
  have F_l_wrong := fun_mk (st := s_l_wrong) l_l_wrong c_l_wrong k_l_wrong
  have B_l_wrong := F_l_wrong.binds (ps := ["_law_some", "_law_size"]) fun _ _ _ _ _ _ us hl => match us, hl with | [_, _], _ => rfl
  obtain ⟨oc_l_kept_right, od_l_kept_right, an_l_kept_right, sl_l_kept_right, dV_l_kept_right, kV_l_kept_right, dc_l_kept_right, pm_l_kept_right, cd_l_kept_right, ct_l_kept_right, l_l_kept_right, c_l_kept_right, k_l_kept_right, e_l_kept_right, w_l_kept_right⟩ := c.fn 13 rfl
  have e_l_kept_right : dV_l_kept_right = .none := e_l_kept_right rfl
  subst e_l_kept_right
  have F_l_kept_right := fun_mk (st := s_l_kept_right) l_l_kept_right c_l_kept_right k_l_kept_right
  have B_l_kept_right := F_l_kept_right.binds (ps := ["_law_pot_here", "_law_made", "_law_word"]) fun _ _ _ _ _ _ us hl => match us, hl with | [_, _, _], _ => rfl
  obtain ⟨oc_l_no_lists_right, od_l_no_lists_right, an_l_no_lists_right, sl_l_no_lists_right, dV_l_no_lists_right, kV_l_no_lists_right, dc_l_no_lists_right, pm_l_no_lists_right, cd_l_no_lists_right, ct_l_no_lists_right, l_l_no_lists_right, c_l_no_lists_right, k_l_no_lists_right, e_l_no_lists_right, w_l_no_lists_right⟩ := c.fn 14 rfl
  have e_l_no_lists_right : dV_l_no_lists_right = .none := e_l_no_lists_right rfl
  subst e_l_no_lists_right
  have F_l_no_lists_right := fun_mk (st := s_l_no_lists_right) l_l_no_lists_right c_l_no_lists_right k_l_no_lists_right
  have B_l_no_lists_right := F_l_no_lists_right.binds (ps := ["_law_pot_here", "_law_made"]) fun _ _ _ _ _ _ us hl => match us, hl with | [_, _], _ => rfl
  obtain ⟨oc_l_right, od_l_right, an_l_right, sl_l_right, dV_l_right, kV_l_right, dc_l_right, pm_l_right, cd_l_right, ct_l_right, l_l_right, c_l_right, k_l_right, e_l_right, w_l_right⟩ := c.fn 15 rfl
  have e_l_right : dV_l_right = .none := e_l_right rfl
  subst e_l_right
  have F_l_right := fun_mk (st := s_l_right) l_l_right c_l_right k_l_right
  have B_l_right := F_l_right.binds (ps := ["_law_pot_here"]) fun _ _ _ _ _ _ us hl => match us, hl with | [_], _ => rfl
  obtain ⟨oc_law, od_law, an_law, sl_law, dV_law, kV_law, dc_law, pm_law, cd_law, ct_law, l_law, c_law, k_law, e_law, w_law⟩ := c.fn 16 rfl
  have e_law : dV_law = .none := e_law rfl
  subst e_law
  have F_law := fun_mk (st := s_law) l_law c_law k_law
  have B_law := F_law.binds (ps := ["_law_script"]) fun _ _ _ _ _ _ us hl => match us, hl with | [_], _ => rfl
  obtain ⟨oc_Row_init, od_Row_init, an_Row_init, sl_Row_init, dV_Row_init, kV_Row_init, dc_Row_init, pm_Row_init, cd_Row_init, ct_Row_init, l_Row_init, c_Row_init, k_Row_init, e_Row_init, w_Row_init⟩ := c.fn 17 rfl
  obtain ⟨T_Row_init, o_Row_init, nT_Row_init, eT_Row_init, t_Row_init, dT_Row_init⟩ := Hd.dfl_ok l_Row_init (fc 17 rfl)
  have eT_Row_init : dV_Row_init = .ref T_Row_init := eT_Row_init
  subst eT_Row_init
  have F_Row_init := funA_mk (st := s_Row_init) l_Row_init c_Row_init k_Row_init
  have B_Row_init := binds_tup (K := K) (x := "__init__") (qual := "Row.__init__") (st := s_Row_init) (ps := ["self", "names"]) (kV := kV_Row_init) (doc := dc_Row_init) (pm := pm_Row_init) (cdv := cd_Row_init) (ct := ct_Row_init) (an := an_Row_init) t_Row_init dT_Row_init fun us hl => match us, hl with | [_, _], _ => ⟨_, rfl, rfl⟩
  have B0_Row_init := binds_dfl (K := K) (x := "__init__") (qual := "Row.__init__") (st := s_Row_init) (ps := ["self", "names"]) (kV := kV_Row_init) (doc := dc_Row_init) (pm := pm_Row_init) (cdv := cd_Row_init) (ct := ct_Row_init) (an := an_Row_init) (ds := [.ref (Hd.dfl1 K (He.ma K (He.ga K "Row") "__init__"))]) t_Row_init dT_Row_init fun us hl => match us, hl with | [_], _ => ⟨_, rfl, rfl⟩ | [], hl => absurd hl (by simp) | _ :: _ :: _, hl => absurd hl (by simp)
  have BK_Row_init := binds_kw1 (K := K) (x := "__init__") (qual := "Row.__init__") (st := s_Row_init) (ps := ["self", "names"]) (kV := kV_Row_init) (doc := dc_Row_init) (pm := pm_Row_init) (cdv := cd_Row_init) (ct := ct_Row_init) (an := an_Row_init) (kn := "names") t_Row_init dT_Row_init fun _ _ => ⟨_, rfl, rfl⟩
  obtain ⟨oc_Row_names, od_Row_names, an_Row_names, sl_Row_names, dV_Row_names, kV_Row_names, dc_Row_names, pm_Row_names, cd_Row_names, ct_Row_names, l_Row_names, c_Row_names, k_Row_names, e_Row_names, w_Row_names⟩ := c.fn 18 rfl
  have e_Row_names : dV_Row_names = .none := e_Row_names rfl
  subst e_Row_names
  have F_Row_names := fun_mk (st := s_Row_names) l_Row_names c_Row_names k_Row_names
  have B_Row_names := F_Row_names.binds (ps := ["self"]) fun _ _ _ _ _ _ us hl => match us, hl with | [_], _ => rfl
  obtain ⟨oc_Row_want_many, od_Row_want_many, an_Row_want_many, sl_Row_want_many, dV_Row_want_many, kV_Row_want_many, dc_Row_want_many, pm_Row_want_many, cd_Row_want_many, ct_Row_want_many, l_Row_want_many, c_Row_want_many, k_Row_want_many, e_Row_want_many, w_Row_want_many⟩ := c.fn 19 rfl
  have e_Row_want_many : dV_Row_want_many = .none := e_Row_want_many rfl
  subst e_Row_want_many
  have F_Row_want_many := fun_mk (st := s_Row_want_many) l_Row_want_many c_Row_want_many k_Row_want_many
  have B_Row_want_many := F_Row_want_many.binds (ps := ["self", "many"]) fun _ _ _ _ _ _ us hl => match us, hl with | [_, _], _ => rfl
  obtain ⟨oc_Row_want_position, od_Row_want_position, an_Row_want_position, sl_Row_want_position, dV_Row_want_position, kV_Row_want_position, dc_Row_want_position, pm_Row_want_position, cd_Row_want_position, ct_Row_want_position, l_Row_want_position, c_Row_want_position, k_Row_want_position, e_Row_want_position, w_Row_want_position⟩ := c.fn 20 rfl
  have e_Row_want_position : dV_Row_want_position = .none := e_Row_want_position rfl
  subst e_Row_want_position
  have F_Row_want_position := fun_mk (st := s_Row_want_position) l_Row_want_position c_Row_want_position k_Row_want_position
  have B_Row_want_position := F_Row_want_position.binds (ps := ["self", "position"]) fun _ _ _ _ _ _ us hl => match us, hl with | [_, _], _ => rfl
  obtain ⟨oc_Row_first, od_Row_first, an_Row_first, sl_Row_first, dV_Row_first, kV_Row_first, dc_Row_first, pm_Row_first, cd_Row_first, ct_Row_first, l_Row_first, c_Row_first, k_Row_first, e_Row_first, w_Row_first⟩ := c.fn 21 rfl
  have e_Row_first : dV_Row_first = .none := e_Row_first rfl
  subst e_Row_first
  have F_Row_first := fun_mk (st := s_Row_first) l_Row_first c_Row_first k_Row_first
  have B_Row_first := F_Row_first.binds (ps := ["self", "many"]) fun _ _ _ _ _ _ us hl => match us, hl with | [_, _], _ => rfl
  obtain ⟨oc_Row_after, od_Row_after, an_Row_after, sl_Row_after, dV_Row_after, kV_Row_after, dc_Row_after, pm_Row_after, cd_Row_after, ct_Row_after, l_Row_after, c_Row_after, k_Row_after, e_Row_after, w_Row_after⟩ := c.fn 22 rfl
  have e_Row_after : dV_Row_after = .none := e_Row_after rfl
  subst e_Row_after
  have F_Row_after := fun_mk (st := s_Row_after) l_Row_after c_Row_after k_Row_after
  have B_Row_after := F_Row_after.binds (ps := ["self", "many"]) fun _ _ _ _ _ _ us hl => match us, hl with | [_, _], _ => rfl
  obtain ⟨oc_Row_without, od_Row_without, an_Row_without, sl_Row_without, dV_Row_without, kV_Row_without, dc_Row_without, pm_Row_without, cd_Row_without, ct_Row_without, l_Row_without, c_Row_without, k_Row_without, e_Row_without, w_Row_without⟩ := c.fn 23 rfl
  have e_Row_without : dV_Row_without = .none := e_Row_without rfl
  subst e_Row_without
  have F_Row_without := fun_mk (st := s_Row_without) l_Row_without c_Row_without k_Row_without
  have B_Row_without := F_Row_without.binds (ps := ["self", "position"]) fun _ _ _ _ _ _ us hl => match us, hl with | [_, _], _ => rfl
  obtain ⟨oc_Row_kept, od_Row_kept, an_Row_kept, sl_Row_kept, dV_Row_kept, kV_Row_kept, dc_Row_kept, pm_Row_kept, cd_Row_kept, ct_Row_kept, l_Row_kept, c_Row_kept, k_Row_kept, e_Row_kept, w_Row_kept⟩ := c.fn 24 rfl
  have e_Row_kept : dV_Row_kept = .none := e_Row_kept rfl
  subst e_Row_kept
  have F_Row_kept := fun_mk (st := s_Row_kept) l_Row_kept c_Row_kept k_Row_kept
  have B_Row_kept := F_Row_kept.binds (ps := ["self", "positions"]) fun _ _ _ _ _ _ us hl => match us, hl with | [_, _], _ => rfl
  obtain ⟨oc_Row_add, od_Row_add, an_Row_add, sl_Row_add, dV_Row_add, kV_Row_add, dc_Row_add, pm_Row_add, cd_Row_add, ct_Row_add, l_Row_add, c_Row_add, k_Row_add, e_Row_add, w_Row_add⟩ := c.fn 25 rfl
  have e_Row_add : dV_Row_add = .none := e_Row_add rfl
  subst e_Row_add
  have F_Row_add := fun_mk (st := s_Row_add) l_Row_add c_Row_add k_Row_add
  have B_Row_add := F_Row_add.binds (ps := ["self", "other"]) fun _ _ _ _ _ _ us hl => match us, hl with | [_, _], _ => rfl
  obtain ⟨oc_Row_invert, od_Row_invert, an_Row_invert, sl_Row_invert, dV_Row_invert, kV_Row_invert, dc_Row_invert, pm_Row_invert, cd_Row_invert, ct_Row_invert, l_Row_invert, c_Row_invert, k_Row_invert, e_Row_invert, w_Row_invert⟩ := c.fn 26 rfl
  have e_Row_invert : dV_Row_invert = .none := e_Row_invert rfl
  subst e_Row_invert
  have F_Row_invert := fun_mk (st := s_Row_invert) l_Row_invert c_Row_invert k_Row_invert
  have B_Row_invert := F_Row_invert.binds (ps := ["self"]) fun _ _ _ _ _ _ us hl => match us, hl with | [_], _ => rfl
  obtain ⟨oc_Row_eq, od_Row_eq, an_Row_eq, sl_Row_eq, dV_Row_eq, kV_Row_eq, dc_Row_eq, pm_Row_eq, cd_Row_eq, ct_Row_eq, l_Row_eq, c_Row_eq, k_Row_eq, e_Row_eq, w_Row_eq⟩ := c.fn 27 rfl
  have e_Row_eq : dV_Row_eq = .none := e_Row_eq rfl
  subst e_Row_eq
  have F_Row_eq := fun_mk (st := s_Row_eq) l_Row_eq c_Row_eq k_Row_eq
  have B_Row_eq := F_Row_eq.binds (ps := ["self", "other"]) fun _ _ _ _ _ _ us hl => match us, hl with | [_, _], _ => rfl
  obtain ⟨oc_InvalidCount_init, od_InvalidCount_init, an_InvalidCount_init, sl_InvalidCount_init, dV_InvalidCount_init, kV_InvalidCount_init, dc_InvalidCount_init, pm_InvalidCount_init, cd_InvalidCount_init, ct_InvalidCount_init, l_InvalidCount_init, c_InvalidCount_init, k_InvalidCount_init, e_InvalidCount_init, w_InvalidCount_init⟩ := c.fn 28 rfl
  have e_InvalidCount_init : dV_InvalidCount_init = .none := e_InvalidCount_init rfl
  subst e_InvalidCount_init
  have F_InvalidCount_init := funA_mk (st := s_InvalidCount_init) l_InvalidCount_init c_InvalidCount_init k_InvalidCount_init
  have B_InvalidCount_init := (fun_mk (st := s_InvalidCount_init) l_InvalidCount_init c_InvalidCount_init k_InvalidCount_init).binds (ps := ["self", "value"]) fun _ _ _ _ _ _ us hl => match us, hl with | [_, _], _ => rfl
  obtain ⟨oc_InvalidPosition_init, od_InvalidPosition_init, an_InvalidPosition_init, sl_InvalidPosition_init, dV_InvalidPosition_init, kV_InvalidPosition_init, dc_InvalidPosition_init, pm_InvalidPosition_init, cd_InvalidPosition_init, ct_InvalidPosition_init, l_InvalidPosition_init, c_InvalidPosition_init, k_InvalidPosition_init, e_InvalidPosition_init, w_InvalidPosition_init⟩ := c.fn 29 rfl
  have e_InvalidPosition_init : dV_InvalidPosition_init = .none := e_InvalidPosition_init rfl
  subst e_InvalidPosition_init
  have F_InvalidPosition_init := funA_mk (st := s_InvalidPosition_init) l_InvalidPosition_init c_InvalidPosition_init k_InvalidPosition_init
  have B_InvalidPosition_init := (fun_mk (st := s_InvalidPosition_init) l_InvalidPosition_init c_InvalidPosition_init k_InvalidPosition_init).binds (ps := ["self", "value"]) fun _ _ _ _ _ _ us hl => match us, hl with | [_, _], _ => rfl
  obtain ⟨oc_InvalidPositions_init, od_InvalidPositions_init, an_InvalidPositions_init, sl_InvalidPositions_init, dV_InvalidPositions_init, kV_InvalidPositions_init, dc_InvalidPositions_init, pm_InvalidPositions_init, cd_InvalidPositions_init, ct_InvalidPositions_init, l_InvalidPositions_init, c_InvalidPositions_init, k_InvalidPositions_init, e_InvalidPositions_init, w_InvalidPositions_init⟩ := c.fn 30 rfl
  have e_InvalidPositions_init : dV_InvalidPositions_init = .none := e_InvalidPositions_init rfl
  subst e_InvalidPositions_init
  have F_InvalidPositions_init := funA_mk (st := s_InvalidPositions_init) l_InvalidPositions_init c_InvalidPositions_init k_InvalidPositions_init
  have B_InvalidPositions_init := (fun_mk (st := s_InvalidPositions_init) l_InvalidPositions_init c_InvalidPositions_init k_InvalidPositions_init).binds (ps := ["self", "position"]) fun _ _ _ _ _ _ us hl => match us, hl with | [_, _], _ => rfl
  exact ⟨{
    a_is_integer := He.ga K "is_integer", d_is_integer := _, f_is_integer := F_is_integer,
    b_is_integer := B_is_integer,
    m_is_integer := Hd.glo_ok X G (fc 0 rfl),
    a_is_count := He.ga K "is_count", d_is_count := _, f_is_count := F_is_count,
    b_is_count := B_is_count,
    m_is_count := Hd.glo_ok X G (fc 1 rfl),
    a_is_list := He.ga K "is_list", d_is_list := _, f_is_list := F_is_list,
    b_is_list := B_is_list,
    m_is_list := Hd.glo_ok X G (fc 2 rfl),
    a_is_name := He.ga K "is_name", d_is_name := _, f_is_name := F_is_name,
    b_is_name := B_is_name,
    m_is_name := Hd.glo_ok X G (fc 3 rfl),
    a_want_few_runs := He.ga K "want_few_runs", d_want_few_runs := _, f_want_few_runs := F_want_few_runs,
    b_want_few_runs := B_want_few_runs,
    m_want_few_runs := Hd.glo_ok X G (fc 4 rfl),
    a_l_pot := He.ga K "_law_pot", d_l_pot := _, f_l_pot := F_l_pot,
    b_l_pot := B_l_pot,
    m_l_pot := Hd.glo_ok X G (fc 5 rfl),
    a_l_draw := He.ga K "_law_draw", d_l_draw := _, f_l_draw := F_l_draw,
    b_l_draw := B_l_draw,
    m_l_draw := Hd.glo_ok X G (fc 6 rfl),
    a_l_pick := He.ga K "_law_pick", d_l_pick := _, f_l_pick := F_l_pick,
    b_l_pick := B_l_pick,
    m_l_pick := Hd.glo_ok X G (fc 7 rfl),
    a_l_labels := He.ga K "_law_labels", d_l_labels := _, f_l_labels := F_l_labels,
    b_l_labels := B_l_labels,
    m_l_labels := Hd.glo_ok X G (fc 8 rfl),
    a_l_told := He.ga K "_law_told", d_l_told := _, f_l_told := F_l_told,
    b_l_told := B_l_told,
    m_l_told := Hd.glo_ok X G (fc 9 rfl),
    a_l_ends_right := He.ga K "_law_ends_right", d_l_ends_right := _, f_l_ends_right := F_l_ends_right,
    b_l_ends_right := B_l_ends_right,
    m_l_ends_right := Hd.glo_ok X G (fc 10 rfl),
    a_l_counts_right := He.ga K "_law_counts_right", d_l_counts_right := _, f_l_counts_right := F_l_counts_right,
    b_l_counts_right := B_l_counts_right,
    m_l_counts_right := Hd.glo_ok X G (fc 11 rfl),
    cd_l_counts_right := Hd.codeA K (He.ga K "_law_counts_right"), P_l_counts_right := He.tabOf K (Hd.codeA K (He.ga K "_law_counts_right")), co_l_counts_right := w_l_counts_right,
    a_l_wrong := He.ga K "_law_wrong", d_l_wrong := _, f_l_wrong := F_l_wrong,
    b_l_wrong := B_l_wrong,
    m_l_wrong := Hd.glo_ok X G (fc 12 rfl),
    a_l_kept_right := He.ga K "_law_kept_right", d_l_kept_right := _, f_l_kept_right := F_l_kept_right,
    b_l_kept_right := B_l_kept_right,
    m_l_kept_right := Hd.glo_ok X G (fc 13 rfl),
    cd_l_kept_right := Hd.codeA K (He.ga K "_law_kept_right"), P_l_kept_right := He.tabOf K (Hd.codeA K (He.ga K "_law_kept_right")), co_l_kept_right := w_l_kept_right,
    a_l_no_lists_right := He.ga K "_law_no_lists_right", d_l_no_lists_right := _, f_l_no_lists_right := F_l_no_lists_right,
    b_l_no_lists_right := B_l_no_lists_right,
    m_l_no_lists_right := Hd.glo_ok X G (fc 14 rfl),
    cd_l_no_lists_right := Hd.codeA K (He.ga K "_law_no_lists_right"), P_l_no_lists_right := He.tabOf K (Hd.codeA K (He.ga K "_law_no_lists_right")), co_l_no_lists_right := w_l_no_lists_right,
    a_l_right := He.ga K "_law_right", d_l_right := _, f_l_right := F_l_right,
    b_l_right := B_l_right,
    m_l_right := Hd.glo_ok X G (fc 15 rfl),
    a_law := He.ga K "law", d_law := _, f_law := F_law,
    b_law := B_law,
    m_law := Hd.glo_ok X G (fc 16 rfl),
    bl_law := fun s u => .of_eq rfl,
    a_Row_init := He.ma K (He.ga K "Row") "__init__", d_Row_init := _, f_Row_init := F_Row_init,
    b_Row_init := B_Row_init,
    e_Row_init := Hd.dfl1 K (He.ma K (He.ga K "Row") "__init__"), b0_Row_init := B0_Row_init, bk_Row_init := BK_Row_init, v0_Row_init := Hd.tup0_ok (fc 18 rfl),
    a_Row_names := Hd.hd1 (PySem.W.recIn K (He.ma K (He.ga K "Row") "names") "property"), d_Row_names := _, f_Row_names := F_Row_names,
    b_Row_names := B_Row_names,
    a_Row_want_many := He.ma K (He.ga K "Row") "want_many", d_Row_want_many := _, f_Row_want_many := F_Row_want_many,
    b_Row_want_many := B_Row_want_many,
    a_Row_want_position := He.ma K (He.ga K "Row") "want_position", d_Row_want_position := _, f_Row_want_position := F_Row_want_position,
    b_Row_want_position := B_Row_want_position,
    a_Row_first := He.ma K (He.ga K "Row") "first", d_Row_first := _, f_Row_first := F_Row_first,
    b_Row_first := B_Row_first,
    bk_Row_first := ⟨fun s us ws _ h1 h2 => match us, ws, h1, h2 with | [_], [_], _, _ => .of_eq rfl, fun r1 r2 => r1.append r2⟩,
    a_Row_after := He.ma K (He.ga K "Row") "after", d_Row_after := _, f_Row_after := F_Row_after,
    b_Row_after := B_Row_after,
    bk_Row_after := ⟨fun s us ws _ h1 h2 => match us, ws, h1, h2 with | [_], [_], _, _ => .of_eq rfl, fun r1 r2 => r1.append r2⟩,
    a_Row_without := He.ma K (He.ga K "Row") "without", d_Row_without := _, f_Row_without := F_Row_without,
    b_Row_without := B_Row_without,
    bk_Row_without := ⟨fun s us ws _ h1 h2 => match us, ws, h1, h2 with | [_], [_], _, _ => .of_eq rfl, fun r1 r2 => r1.append r2⟩,
    a_Row_kept := He.ma K (He.ga K "Row") "kept", d_Row_kept := _, f_Row_kept := F_Row_kept,
    b_Row_kept := B_Row_kept,
    bk_Row_kept := ⟨fun s us ws _ h1 h2 => match us, ws, h1, h2 with | [_], [_], _, _ => .of_eq rfl, fun r1 r2 => r1.append r2⟩,
    a_Row_add := He.ma K (He.ga K "Row") "__add__", d_Row_add := _, f_Row_add := F_Row_add,
    b_Row_add := B_Row_add,
    a_Row_invert := He.ma K (He.ga K "Row") "__invert__", d_Row_invert := _, f_Row_invert := F_Row_invert,
    b_Row_invert := B_Row_invert,
    a_Row_eq := He.ma K (He.ga K "Row") "__eq__", d_Row_eq := _, f_Row_eq := F_Row_eq,
    b_Row_eq := B_Row_eq,
    a_InvalidCount_init := He.ma K (He.ga K "InvalidCount") "__init__", d_InvalidCount_init := _, f_InvalidCount_init := F_InvalidCount_init,
    b_InvalidCount_init := B_InvalidCount_init,
    a_InvalidPosition_init := He.ma K (He.ga K "InvalidPosition") "__init__", d_InvalidPosition_init := _, f_InvalidPosition_init := F_InvalidPosition_init,
    b_InvalidPosition_init := B_InvalidPosition_init,
    a_InvalidPositions_init := He.ma K (He.ga K "InvalidPositions") "__init__", d_InvalidPositions_init := _, f_InvalidPositions_init := F_InvalidPositions_init,
    b_InvalidPositions_init := B_InvalidPositions_init,
    C_Row := He.ga K "Row", m_Row := Hd.glo_ok X G (fc 19 rfl), own_Row := Hd.own_ok (fc 20 rfl), sf_Row := (fc 21 rfl),
    mk_Row := Hd.mk_ok (fc 22 rfl),
    pr_Row_names := Hd.pr_ok (fc 23 rfl),
    me_Row_want_many := Hd.me_ok (fc 24 rfl),
    me_Row_want_position := Hd.me_ok (fc 25 rfl),
    me_Row_first := Hd.me_ok (fc 26 rfl),
    me_Row_after := Hd.me_ok (fc 27 rfl),
    me_Row_without := Hd.me_ok (fc 28 rfl),
    me_Row_kept := Hd.me_ok (fc 29 rfl),
    sp_Row_add := Hd.sp_ok (fc 30 rfl),
    sp_Row_invert := Hd.sp_ok (fc 31 rfl),
    sp_Row_eq := Hd.sp_ok (fc 32 rfl),
    n_Row_own_names := Hd.noF_ok (fc 33 rfl),
    rd_Row := Hd.rd_ok (fc 34 rfl), ne_Row := Hd.isF_ok (fc 35 rfl), so_Row := of_decide_eq_true (fc 37 rfl), ci_Row := (fc 38 rfl), ti_Row := of_decide_eq_true (fc 39 rfl),
    su_Row_NoneType := Hd.noSub_ok (fc 36 rfl) (by decide),
    su_Row_bool := Hd.noSub_ok (fc 36 rfl) (by decide),
    su_Row_int := Hd.noSub_ok (fc 36 rfl) (by decide),
    su_Row_str := Hd.noSub_ok (fc 36 rfl) (by decide),
    su_Row_list := Hd.noSub_ok (fc 36 rfl) (by decide),
    su_Row_tuple := Hd.noSub_ok (fc 36 rfl) (by decide),
    su_Row_dict := Hd.noSub_ok (fc 36 rfl) (by decide),
    C_InvalidCount := He.ga K "InvalidCount", er_InvalidCount := Hd.err_ok X G (fc 40 rfl), xc_InvalidCount := Hd.xc_ok (fc 41 rfl), xf_InvalidCount := Hd.xf_ok (fc 41 rfl),
    C_InvalidPosition := He.ga K "InvalidPosition", er_InvalidPosition := Hd.err_ok X G (fc 42 rfl), xc_InvalidPosition := Hd.xc_ok (fc 43 rfl), xf_InvalidPosition := Hd.xf_ok (fc 43 rfl),
    C_InvalidPositions := He.ga K "InvalidPositions", er_InvalidPositions := Hd.err_ok X G (fc 44 rfl), xc_InvalidPositions := Hd.xc_ok (fc 45 rfl), xf_InvalidPositions := Hd.xf_ok (fc 45 rfl),
    C_FixError := He.ga K "FixError", m_FixError := Hd.glo_ok X G (fc 46 rfl),
    xm_InvalidCount_InvalidCount := of_decide_eq_true (fc 47 rfl), ko_InvalidCount_InvalidCount := of_decide_eq_true (fc 48 rfl),
    xm_InvalidCount_InvalidPosition := of_decide_eq_true (fc 49 rfl), ko_InvalidCount_InvalidPosition := of_decide_eq_true (fc 50 rfl),
    xm_InvalidCount_InvalidPositions := of_decide_eq_true (fc 51 rfl), ko_InvalidCount_InvalidPositions := of_decide_eq_true (fc 52 rfl),
    xm_InvalidCount_FixError := of_decide_eq_true (fc 53 rfl), ko_InvalidCount_FixError := of_decide_eq_true (fc 54 rfl),
    xm_InvalidPosition_InvalidCount := of_decide_eq_true (fc 55 rfl), ko_InvalidPosition_InvalidCount := of_decide_eq_true (fc 56 rfl),
    xm_InvalidPosition_InvalidPosition := of_decide_eq_true (fc 57 rfl), ko_InvalidPosition_InvalidPosition := of_decide_eq_true (fc 58 rfl),
    xm_InvalidPosition_InvalidPositions := of_decide_eq_true (fc 59 rfl), ko_InvalidPosition_InvalidPositions := of_decide_eq_true (fc 60 rfl),
    xm_InvalidPosition_FixError := of_decide_eq_true (fc 61 rfl), ko_InvalidPosition_FixError := of_decide_eq_true (fc 62 rfl),
    xm_InvalidPositions_InvalidCount := of_decide_eq_true (fc 63 rfl), ko_InvalidPositions_InvalidCount := of_decide_eq_true (fc 64 rfl),
    xm_InvalidPositions_InvalidPosition := of_decide_eq_true (fc 65 rfl), ko_InvalidPositions_InvalidPosition := of_decide_eq_true (fc 66 rfl),
    xm_InvalidPositions_InvalidPositions := of_decide_eq_true (fc 67 rfl), ko_InvalidPositions_InvalidPositions := of_decide_eq_true (fc 68 rfl),
    xm_InvalidPositions_FixError := of_decide_eq_true (fc 69 rfl), ko_InvalidPositions_FixError := of_decide_eq_true (fc 70 rfl),
    ka_InvalidCount_0 := of_decide_eq_true (fc 71 rfl),
    ka_InvalidPositions_1 := of_decide_eq_true (fc 72 rfl),
    ka_Row_2 := of_decide_eq_true (fc 73 rfl),
    smk := Wx.sm_ok (fc 74 rfl),
    z_isinstance := Hd.free_ok X G (fc 75 rfl),
    z_list := Hd.free_ok X G (fc 76 rfl),
    z_tuple := Hd.free_ok X G (fc 77 rfl),
    z_str := Hd.free_ok X G (fc 78 rfl),
    z_len := Hd.free_ok X G (fc 79 rfl),
    z_all := Hd.free_ok X G (fc 80 rfl),
    z_enumerate := Hd.free_ok X G (fc 81 rfl),
    z_abs := Hd.free_ok X G (fc 82 rfl),
    z_max := Hd.free_ok X G (fc 83 rfl),
    z_int := Hd.free_ok X G (fc 84 rfl),
    z_divmod := Hd.free_ok X G (fc 85 rfl),
    z_range := Hd.free_ok X G (fc 86 rfl),
    z_min := Hd.free_ok X G (fc 87 rfl),
    z_repr := Hd.free_ok X G (fc 88 rfl),
    z_bool := Hd.free_ok X G (fc 89 rfl),
    c_LETTERS := Hd.str_ok X G (fc 90 rfl),
    c_MOST_LETTERS := Hd.int_ok X G (fc 91 rfl),
    c_MOST_RUNS := Hd.int_ok X G (fc 92 rfl)
  }, Hd.glo_ok X G (fc 16 rfl), rfl, rfl, rfl, rfl, rfl, rfl⟩
theorem tabs_nd {K : PySem.W.Frag} {h : Heap} (c : Hd.Says dfs exL tfL h K) : ([He.ga K "_law_counts_right", He.ga K "_law_kept_right", He.ga K "_law_no_lists_right"].map fun a => He.tabOf K (Hd.codeA K a)).Nodup := of_decide_eq_true (c.fact 93 rfl)
/-- the head's run -/
abbrev RR : PySem.W.OpenRow := PySem.W.OpenLaw.row PySem.Challenge.rw_fixrest_k13_rows_cut
abbrev hkR : PySem.W.Hook := Hd.hook 5 dfs exL tfL
def obR (s : PySem.W.SharedT) : Hd.Al := Hd.obsG 5 dfs exL tfL (HandSHeadRun.getT s)
theorem obR_eq (s : PySem.W.SharedT) : obR s = hkR.obs s.abs := Hd.obsG_eq (HandSHeadRun.getT_eq s)
def looseR : List PySem.Str := ["_wall", "FixError", "InvalidRow", "InvalidCount", "InvalidPosition", "InvalidPositions", "LimitError", "TooMany", "LETTERS", "MOST_LETTERS", "MOST_RUNS", "is_integer", "is_count", "is_list", "is_name", "want_few_runs", "Row", "_law_pot", "_law_draw", "_law_pick", "_law_labels", "_law_told", "_law_ends_right", "_law_counts_right", "_law_wrong", "_law_kept_right", "_law_no_lists_right", "_law_right"]
theorem runR (w : World) : HandSHeadRun.RunEq RR (PySem.W.view RR.prog [31]) hkR obR 60000 looseR w := by
  intro os
  kernel_rfl
end Fk
set_option Elab.async false
set_option linter.all false
set_option maxRecDepth 100000
set_option maxHeartbeats 0
open PySem PySem.W PySem.Calls PyProof.Rows
theorem PySem.Challenge.cw_fixrest_k13_rows_cut_holds : PySem.Challenge.rw_fixrest_k13_rows_cut.Holds := by
  w_on; o_law
  refine HandSHeadRun.head_any (r := OpenLaw.row PySem.Challenge.rw_fixrest_k13_rows_cut) (q := view (OpenLaw.row PySem.Challenge.rw_fixrest_k13_rows_cut).prog [31]) (H := Fk.hkR) (ob := Fk.obR) (M := 60000) (loose := Fk.looseR) (d := HandSHeadRun.topDef (OpenLaw.row PySem.Challenge.rw_fixrest_k13_rows_cut).prog 31) (kwd := []) Fk.obR_eq
    (by kernel_rfl) (fun s => by kernel_rfl) Fk.runR (by kernel_rfl) (by kernel_rfl) (by kernel_rfl) (by rfl) (by first | assumption | decide +kernel) (by decide +kernel) ⟨rfl, rfl, rfl, rfl, rfl, by decide +kernel⟩ ?hw ?hc
  case hw => w_witness2
  case hc =>
    refine Wx.walkT (l := PySem.Challenge.rw_fixrest_k13_rows_cut) (n := 63) (k := 9) (x := "_law_script") rfl (by decide) (by kernel_rfl) ⟨rfl, by decide, by decide⟩ ?F
    intro w mg fa h Yh G hmg0
    obtain ⟨K, KX, c⟩ := Yh
    have hmg : mg ("law" : PySem.Str) = some (.ref fa) := by
      have e : (HandSHeadRun.topDef (OpenLaw.row PySem.Challenge.rw_fixrest_k13_rows_cut).prog 31).name = ("law" : PySem.Str) := by kernel_rfl
      rw [← e]
      exact hmg0
    obtain ⟨T, hlaw, c0, p0, c1, p1, c2, p2⟩ := Fk.tx_of KX G c
    have e : T.a_law = fa := Hd.law_at hlaw hmg
    clear hmg hmg0 hlaw
    subst e
    have nd := Fk.tabs_nd c
    simp only [List.map_cons, List.map_nil] at nd
    rw [← p0, ← p1, ← p2] at nd
    have m0 : (.glo "_law_counts_right" : Hd.Pth) ∈ Fk.tfL := by unfold Fk.tfL; exact .head _
    have a0 := c.hd _ m0; have b0 := c.out _ m0; have d0 := c.mt _ m0
    have a0 : PySem.W.codeHdIn K T.cd_l_counts_right T.P_l_counts_right = true := by rw [c0, p0]; exact a0
    have b0 : K.lookup T.P_l_counts_right = none := by rw [p0]; exact b0
    have d0 : h.get? T.P_l_counts_right = some Wx.mtTab := by rw [p0]; exact d0
    have m1 : (.glo "_law_kept_right" : Hd.Pth) ∈ Fk.tfL := by unfold Fk.tfL; exact .tail _ (.head _)
    have a1 := c.hd _ m1; have b1 := c.out _ m1; have d1 := c.mt _ m1
    have a1 : PySem.W.codeHdIn K T.cd_l_kept_right T.P_l_kept_right = true := by rw [c1, p1]; exact a1
    have b1 : K.lookup T.P_l_kept_right = none := by rw [p1]; exact b1
    have d1 : h.get? T.P_l_kept_right = some Wx.mtTab := by rw [p1]; exact d1
    have m2 : (.glo "_law_no_lists_right" : Hd.Pth) ∈ Fk.tfL := by unfold Fk.tfL; exact .tail _ (.tail _ (.head _))
    have a2 := c.hd _ m2; have b2 := c.out _ m2; have d2 := c.mt _ m2
    have a2 : PySem.W.codeHdIn K T.cd_l_no_lists_right T.P_l_no_lists_right = true := by rw [c2, p2]; exact a2
    have b2 : K.lookup T.P_l_no_lists_right = none := by rw [p2]; exact b2
    have d2 : h.get? T.P_l_no_lists_right = some Wx.mtTab := by rw [p2]; exact d2
    refine ⟨K, KX, T.d_law, [(T.cd_l_counts_right, T.P_l_counts_right), (T.cd_l_kept_right, T.P_l_kept_right), (T.cd_l_no_lists_right, T.P_l_no_lists_right)], Fk.tbl T, ?_, ?_, ?_, ?_, T.bl_law, ?_⟩
    · exact fun q hq => by
        simp only [List.mem_cons, List.not_mem_nil, or_false] at hq
        rcases hq with rfl | rfl | rfl
        · exact d0
        · exact d1
        · exact d2
    · exact fun q hq => by
        simp only [List.mem_cons, List.not_mem_nil, or_false] at hq
        rcases hq with rfl | rfl | rfl
        · exact b0
        · exact b1
        · exact b2
    · exact fun q hq => by
        simp only [List.mem_cons, List.not_mem_nil, or_false] at hq
        rcases hq with rfl | rfl | rfl
        · exact PySem.W.codeHd_of_K KX a0
        · exact PySem.W.codeHd_of_K KX a1
        · exact PySem.W.codeHd_of_K KX a2
    · intro t ht
      unfold Fk.tbl at ht
      simp only [List.mem_cons, List.not_mem_nil, or_false] at ht
      rcases ht with rfl | rfl | rfl
      · exact ⟨(T.cd_l_counts_right, T.P_l_counts_right), .head _, rfl⟩
      · exact ⟨(T.cd_l_kept_right, T.P_l_kept_right), .tail _ (.head _), rfl⟩
      · exact ⟨(T.cd_l_no_lists_right, T.P_l_no_lists_right), .tail _ (.tail _ (.head _)), rfl⟩
    · exact fun base kb nb tb => Fk.ox_law T ⟨tb (T.cd_l_counts_right, T.P_l_counts_right) (.head _), tb (T.cd_l_kept_right, T.P_l_kept_right) (.tail _ (.head _)), tb (T.cd_l_no_lists_right, T.P_l_no_lists_right) (.tail _ (.tail _ (.head _))), nd⟩
