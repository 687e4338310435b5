import PyProof.Rows.All
import Wide.All
import OpenK.AllK
import Wide.FinOn
import HandS.ForMost
import HandS.Walk
import HandS.Wide
import HandS.TupAny
import HandS.IsInst
import HandS.Style
import HandS.Property
import KE.KCallOwn
import HandS.FStr
import HandS.RaiseMore
import HandS.SetFor
import HandS.Replace
import KE.LtData
import HandS.Defaults
import KE.DatumOrd
import HandS.More
import HandS.MakeKw
import HandS.Text
import PyProof.EqKinds
import PyProof.EqAt
import PySem.Challenge.RW_fixrest_k14_order_of_rows
set_option Elab.async false
set_option linter.all false
set_option maxRecDepth 100000
set_option maxHeartbeats 2000000
/-! Fx, part 1: plain data, what represents it in the abstract heap, evaluation over a growing base. -/
namespace Fx
open PySem L2

/-- plain data: what a value is, all the way down -/
inductive D where
  | non | bl (b : Bool) | int (i : Int) | str (x : Str) | ref (a : Addr) | ty (n : String)
  | lst (xs : List D) | tup (xs : List D)
  /-- an instance that never changes any more: class, attributes -/
  | obj (C : Addr) (fs : List (Str × D))
  /-- a dict that never changes any more -/
  | dic (kvs : List (Key × D))
  /-- a law's pot of draws: a list of two numbers that are at least 0, the second one small -/
  | pot
  /-- the law's script -/
  | scr (ns : List Int)

/-- the pot at p, whatever its numbers -/
def potIs (p : Addr) (h : Heap) : Prop := ∃ (a b : Int) (t u : Tok) (n : Nat), h.get? p = some { cls := .type "list", data := .seq #[.int a t, .int b u] n } ∧ 0 ≤ a ∧ 0 ≤ b ∧ b < 2 ^ 40
def potO (p : Addr) : HO := .ext (potIs p)

/-- what stood stands -/
def Ex (H H' : Hp) : Prop := ∀ a o, H a = some o → H' a = some o
theorem Ex.refl (H : Hp) : Ex H H := fun _ _ h => h
theorem Ex.trans {H H1 H2 : Hp} (a : Ex H H1) (b : Ex H1 H2) : Ex H H2 := fun x o h => b x o (a x o h)
theorem Ex.back {H H' : Hp} {p : Addr} (e : Ex H H') (h : H' p = none) : H p = none := by
  cases h1 : H p with
  | none => rfl
  | some o => rw [e p o h1] at h; cases h
theorem Ex.new {H : Hp} {p : Addr} {o : HO} (h : H p = none) : Ex H (upd H p o) := fun a u e => by
  rw [upd_ne (ne_of_none e h)]; exact e
theorem Ex.put {H H' : Hp} {p : Addr} {o : HO} (e : Ex H H') (h : H p = none) : Ex H (upd H' p o) := fun a u ha => by
  rw [upd_ne (ne_of_none ha h)]; exact e a u ha
/-- the base gets an object that the heap already has -/
theorem Ex.upd_left {B H : Hp} {p : Addr} {o : HO} (e : Ex B H) (h : H p = some o) : Ex (upd B p o) H := fun a u ha => by
  by_cases ea : a = p
  · subst ea; rw [upd_same] at ha; cases ha; exact h
  · rw [upd_ne ea] at ha; exact e a u ha
theorem Ex.rd {H H' : Hp} {a : Addr} {u : HO} (e : Ex H H') (h : Rd H a u) : Rd H' a u := by
  rcases h with h | ⟨o, h⟩
  · exact Or.inl (e a _ h)
  · exact Or.inr ⟨o, e a _ h⟩
theorem Ex.l {K : PySem.W.Frag} {H H' : Hp} {a : Addr} {xs : List V} (e : Ex H H') (h : SqL K H a xs) : SqL K H' a xs := by
  rcases h with h | h
  · exact Or.inl (e.rd h)
  · exact Or.inr h
theorem Ex.t {K : PySem.W.Frag} {H H' : Hp} {a : Addr} {xs : List V} (e : Ex H H') (h : SqT K H a xs) : SqT K H' a xs := by
  rcases h with h | h
  · exact Or.inl (e.rd h)
  · exact Or.inr h

section
variable (K : PySem.W.Frag) (H : Hp)
mutual
/-- the value represents the data in the heap -/
def Rp : D → V → Prop
  | .non, v => v = .non
  | .bl b, v => v = .bl b
  | .int i, v => v = .int i
  | .str x, v => v = .str x
  | .ref a, v => v = .ref a
  | .ty n, v => v = .ty n
  | .lst ds, v => ∃ a xs, v = .ref a ∧ H a = some (.lst xs) ∧ RpL ds xs
  | .tup ds, v => ∃ a xs, v = .ref a ∧ SqT K H a xs ∧ RpL ds xs
  | .obj C fs, v => ∃ a dx gs, v = .ref a ∧ H a = some (.ins C dx gs) ∧ RpF fs gs
  | .dic kvs, v => ∃ a xs, v = .ref a ∧ Rd H a (.dK xs) ∧ RpK kvs xs
  | .pot, v => ∃ a, v = .ref a ∧ H a = some (potO a)
  | .scr ns, v => ∃ a, v = .ref a ∧ SqL K H a (ns.map V.int)
def RpL : List D → List V → Prop
  | [], vs => vs = []
  | d :: ds, vs => ∃ v r, vs = v :: r ∧ Rp d v ∧ RpL ds r
def RpF : List (Str × D) → List (Str × V) → Prop
  | [], vs => vs = []
  | (f, d) :: ds, vs => ∃ v r, vs = (f, v) :: r ∧ Rp d v ∧ RpF ds r
def RpK : List (Key × D) → List (Key × V) → Prop
  | [], vs => vs = []
  | (f, d) :: ds, vs => ∃ v r, vs = (f, v) :: r ∧ Rp d v ∧ RpK ds r
end
end

section
variable {K : PySem.W.Frag} {H H' : Hp}
mutual
theorem Rp.mono (e : Ex H H') : ∀ {d : D} {v : V}, Rp K H d v → Rp K H' d v
  | .non, _, h => by simpa only [Rp] using h
  | .bl _, _, h => by simpa only [Rp] using h
  | .int _, _, h => by simpa only [Rp] using h
  | .str _, _, h => by simpa only [Rp] using h
  | .ref _, _, h => by simpa only [Rp] using h
  | .ty _, _, h => by simpa only [Rp] using h
  | .lst ds, _, h => by
    simp only [Rp] at h ⊢
    obtain ⟨a, xs, e1, h1, h2⟩ := h
    exact ⟨a, xs, e1, e _ _ h1, RpL.mono e h2⟩
  | .tup ds, _, h => by
    simp only [Rp] at h ⊢
    obtain ⟨a, xs, e1, h1, h2⟩ := h
    exact ⟨a, xs, e1, e.t h1, RpL.mono e h2⟩
  | .obj C fs, _, h => by
    simp only [Rp] at h ⊢
    obtain ⟨a, dx, gs, e1, h1, h2⟩ := h
    exact ⟨a, dx, gs, e1, e _ _ h1, RpF.mono e h2⟩
  | .dic kvs, _, h => by
    simp only [Rp] at h ⊢
    obtain ⟨a, xs, e1, h1, h2⟩ := h
    exact ⟨a, xs, e1, e.rd h1, RpK.mono e h2⟩
  | .pot, _, h => by
    simp only [Rp] at h ⊢
    obtain ⟨a, e1, h1⟩ := h
    exact ⟨a, e1, e _ _ h1⟩
  | .scr ns, _, h => by
    simp only [Rp] at h ⊢
    obtain ⟨a, e1, h1⟩ := h
    exact ⟨a, e1, e.l h1⟩
theorem RpL.mono (e : Ex H H') : ∀ {ds : List D} {vs : List V}, RpL K H ds vs → RpL K H' ds vs
  | [], _, h => by simpa only [RpL] using h
  | d :: ds, _, h => by
    simp only [RpL] at h ⊢
    obtain ⟨v, r, e1, h1, h2⟩ := h
    exact ⟨v, r, e1, Rp.mono e h1, RpL.mono e h2⟩
theorem RpF.mono (e : Ex H H') : ∀ {ds : List (Str × D)} {vs : List (Str × V)}, RpF K H ds vs → RpF K H' ds vs
  | [], _, h => by simpa only [RpF] using h
  | (f, d) :: ds, _, h => by
    simp only [RpF] at h ⊢
    obtain ⟨v, r, e1, h1, h2⟩ := h
    exact ⟨v, r, e1, Rp.mono e h1, RpF.mono e h2⟩
theorem RpK.mono (e : Ex H H') : ∀ {ds : List (Key × D)} {vs : List (Key × V)}, RpK K H ds vs → RpK K H' ds vs
  | [], _, h => by simpa only [RpK] using h
  | (f, d) :: ds, _, h => by
    simp only [RpK] at h ⊢
    obtain ⟨v, r, e1, h1, h2⟩ := h
    exact ⟨v, r, e1, Rp.mono e h1, RpK.mono e h2⟩
end
theorem RpL.nil : RpL K H [] [] := by simp only [RpL]
theorem RpL.cons {d : D} {ds : List D} {v : V} {vs : List V} (h : Rp K H d v) (t : RpL K H ds vs) : RpL K H (d :: ds) (v :: vs) := by
  simp only [RpL]; exact ⟨v, vs, rfl, h, t⟩
theorem RpL.length : ∀ {ds : List D} {vs : List V}, RpL K H ds vs → ds.length = vs.length
  | [], _, h => by simp only [RpL] at h; subst h; rfl
  | d :: ds, _, h => by
    simp only [RpL] at h
    obtain ⟨v, r, rfl, _, h2⟩ := h
    simp only [List.length_cons, RpL.length h2]
theorem RpL.append : ∀ {ds es : List D} {vs ws : List V}, RpL K H ds vs → RpL K H es ws → RpL K H (ds ++ es) (vs ++ ws)
  | [], _, _, _, h, t => by simp only [RpL] at h; subst h; exact t
  | d :: ds, _, _, _, h, t => by
    simp only [RpL] at h
    obtain ⟨v, r, rfl, h1, h2⟩ := h
    exact RpL.cons h1 (RpL.append h2 t)
theorem RpL.get : ∀ {ds : List D} {vs : List V} {i : Nat} {v : V}, RpL K H ds vs → vs[i]? = some v → ∃ d, ds[i]? = some d ∧ Rp K H d v
  | [], _, i, v, h, e => by simp only [RpL] at h; subst h; simp at e
  | d :: ds, _, 0, v, h, e => by
    simp only [RpL] at h
    obtain ⟨w, r, rfl, h1, h2⟩ := h
    simp at e; subst e; exact ⟨d, rfl, h1⟩
  | d :: ds, _, i + 1, v, h, e => by
    simp only [RpL] at h
    obtain ⟨w, r, rfl, h1, h2⟩ := h
    obtain ⟨d', a, b⟩ := RpL.get (i := i) h2 (by simpa using e)
    exact ⟨d', by simpa using a, b⟩
theorem RpL.at : ∀ {ds : List D} {vs : List V} {i : Nat} {d : D}, RpL K H ds vs → ds[i]? = some d → ∃ v, vs[i]? = some v ∧ Rp K H d v
  | [], _, i, v, h, e => by simp at e
  | d :: ds, _, 0, v, h, e => by
    simp only [RpL] at h
    obtain ⟨w, r, rfl, h1, h2⟩ := h
    simp at e; subst e; exact ⟨w, rfl, h1⟩
  | d :: ds, _, i + 1, v, h, e => by
    simp only [RpL] at h
    obtain ⟨w, r, rfl, h1, h2⟩ := h
    obtain ⟨d', a, b⟩ := RpL.at (i := i) h2 (by simpa using e)
    exact ⟨d', by simpa using a, b⟩
theorem RpL.take : ∀ {ds : List D} {vs : List V} (n : Nat), RpL K H ds vs → RpL K H (ds.take n) (vs.take n)
  | _, _, 0, _ => by simp only [List.take_zero, RpL]
  | [], _, n + 1, h => by simp only [RpL] at h; subst h; exact RpL.nil
  | d :: ds, _, n + 1, h => by
    simp only [RpL] at h
    obtain ⟨w, r, rfl, h1, h2⟩ := h
    exact RpL.cons h1 (RpL.take n h2)
theorem RpL.drop : ∀ {ds : List D} {vs : List V} (n : Nat), RpL K H ds vs → RpL K H (ds.drop n) (vs.drop n)
  | _, _, 0, h => h
  | [], _, n + 1, h => by simp only [RpL] at h; subst h; exact RpL.nil
  | d :: ds, _, n + 1, h => by
    simp only [RpL] at h
    obtain ⟨w, r, rfl, h1, h2⟩ := h
    exact RpL.drop n h2
theorem RpL.reverse : ∀ {ds : List D} {vs : List V}, RpL K H ds vs → RpL K H ds.reverse vs.reverse
  | [], _, h => by simp only [RpL] at h; subst h; exact RpL.nil
  | d :: ds, _, h => by
    simp only [RpL] at h
    obtain ⟨w, r, rfl, h1, h2⟩ := h
    rw [List.reverse_cons, List.reverse_cons]
    exact RpL.append (RpL.reverse h2) (RpL.cons h1 RpL.nil)
/-- lists of texts, ints, bools -/
abbrev D.strs (ws : List Str) : List D := ws.map D.str
abbrev D.ints (ns : List Int) : List D := ns.map D.int
abbrev D.bls (bs : List Bool) : List D := bs.map D.bl
theorem RpL.strs : ∀ {ws : List Str} {vs : List V}, RpL K H (D.strs ws) vs ↔ vs = ws.map V.str
  | [], _ => by simp [D.strs, RpL]
  | w :: ws, vs => by
    simp only [D.strs, List.map_cons, RpL, Rp]
    constructor
    · rintro ⟨v, r, rfl, rfl, h⟩
      rw [RpL.strs.mp h]
    · rintro rfl
      exact ⟨_, _, rfl, rfl, RpL.strs.mpr rfl⟩
theorem RpL.ints : ∀ {ws : List Int} {vs : List V}, RpL K H (D.ints ws) vs ↔ vs = ws.map V.int
  | [], _ => by simp [D.ints, RpL]
  | w :: ws, vs => by
    simp only [D.ints, List.map_cons, RpL, Rp]
    constructor
    · rintro ⟨v, r, rfl, rfl, h⟩
      rw [RpL.ints.mp h]
    · rintro rfl
      exact ⟨_, _, rfl, rfl, RpL.ints.mpr rfl⟩
theorem RpL.bls : ∀ {ws : List Bool} {vs : List V}, RpL K H (D.bls ws) vs ↔ vs = ws.map V.bl
  | [], _ => by simp [D.bls, RpL]
  | w :: ws, vs => by
    simp only [D.bls, List.map_cons, RpL, Rp]
    constructor
    · rintro ⟨v, r, rfl, rfl, h⟩
      rw [RpL.bls.mp h]
    · rintro rfl
      exact ⟨_, _, rfl, rfl, RpL.bls.mpr rfl⟩
end

/-! ### a step: the base B grows to B', the heap H to H'; what is new in the base is new in the heap -/
structure Step (B H B' H' : Hp) : Prop where
  b : Ex B B'
  bh : Ex B' H'
  h : Ex H H'
  nw : ∀ a, B a = none → H a ≠ none → B' a = none
theorem Step.refl {B H : Hp} (e : Ex B H) : Step B H B H := ⟨Ex.refl B, e, Ex.refl H, fun _ h _ => h⟩
theorem Step.trans {B H B1 H1 B2 H2 : Hp} (s : Step B H B1 H1) (t : Step B1 H1 B2 H2) : Step B H B2 H2 :=
  ⟨s.b.trans t.b, t.bh, s.h.trans t.h, fun a h1 h2 => t.nw a (s.nw a h1 h2) (fun h3 => h2 (s.h.back h3))⟩
theorem Step.keep {B H B' H' : Hp} {p : Addr} {o : HO} (s : Step B H B' H') (h1 : B p = none) (h2 : H p = some o) : B' p = none ∧ H' p = some o :=
  ⟨s.nw p h1 (by rw [h2]; exact fun z => nomatch z), s.h p o h2⟩
/-- a new object, shared -/
theorem Step.alloc {B H : Hp} {p : Addr} {o : HO} (e : Ex B H) (h : H p = none) : Step B H (upd B p o) (upd H p o) :=
  ⟨Ex.new (e.back h), fun a u ha => by
    by_cases q : a = p
    · subst q; rw [upd_same] at ha ⊢; exact ha
    · rw [upd_ne q] at ha ⊢; exact e a u ha, Ex.new h, fun a h1 h2 => by
    have q : a ≠ p := fun z => h2 (z ▸ h)
    rw [upd_ne q]; exact h1⟩
/-- a new object of one's own -/
theorem Step.own {B H : Hp} {p : Addr} {o : HO} (e : Ex B H) (h : H p = none) : Step B H B (upd H p o) :=
  ⟨Ex.refl B, e.trans (Ex.new h), Ex.new h, fun _ h _ => h⟩
/-- an object of one's own is shared from now on (it is new since H) -/
theorem Step.share {B H B' H' : Hp} {p : Addr} {o : HO} (s : Step B H B' H') (h0 : H p = none) (h1 : B' p = none) (h2 : H' p = some o) : Step B H (upd B' p o) H' :=
  ⟨s.b.trans (Ex.new h1), s.bh.upd_left h2, s.h, fun a z1 z2 => by
    have q : a ≠ p := fun z => z2 (z ▸ h0)
    rw [upd_ne q]; exact s.nw a z1 z2⟩
end Fx
set_option Elab.async false
set_option linter.all false
set_option maxRecDepth 100000
set_option maxHeartbeats 2000000
/-! Fx, part 2: runs from a state, expressions over a base, blocks. -/
namespace Fx
open PySem L2

/-! ### runs of syntax from one abstract state -/
def RE (X : Cx) (e : Expr) (σ : L2.St) (H : Hp) (Q : VK) : Prop := ∀ pins s, Inv X pins σ H s → wpAny (model X.prog X.w) X.A (eval e X.env) (EP X pins σ Q) X.xe s
def RT (X : Cx) (e : Expr) (σ : L2.St) (H : Hp) (Q : Bool → Hp → Prop) : Prop := ∀ pins s, Inv X pins σ H s → wpAny (model X.prog X.w) X.A (isTrue e X.env (eval e X.env)) (TP X pins σ Q) X.xe s
def RA (X : Cx) (es : List Expr) (σ : L2.St) (H : Hp) (Q : List V → Hp → Prop) : Prop := ∀ pos pins s, Inv X pins σ H s → wpAny (model X.prog X.w) X.A (spliced (backTo pos (starEach es X.env))) (AP X pins σ Q) X.xe s
def RS (X : Cx) (st : Stmt) (σ : L2.St) (H : Hp) (D : Ends) : Prop := ∀ pins s, Inv X pins σ H s → wpAny (model X.prog X.w) X.A (exec st X.env) (SP X pins D) X.xe s
def RB (X : Cx) (st : List Stmt) (σ : L2.St) (H : Hp) (D : Ends) : Prop := ∀ pins s, Inv X pins σ H s → wpAny (model X.prog X.w) X.A (execs st X.env) (SP X pins D) X.xe s
section
variable {X : Cx} {e : Expr} {es : List Expr} {st : Stmt} {sts : List Stmt}
/-- each piece of syntax has its runs as a reading -/
theorem cE : PE X e (RE X e) := ⟨fun pins s _ _ _ I h => h pins s I⟩
theorem cT : PT X e (RT X e) := ⟨fun pins s _ _ _ I h => h pins s I⟩
theorem cA : PA X es (RA X es) := ⟨fun pos pins s _ _ _ I h => h pos pins s I⟩
theorem cS : PS X st (fun D σ H => RS X st σ H D) := ⟨fun pins s _ _ _ I h => h pins s I⟩
theorem cB : PSs X sts (fun D σ H => RB X sts σ H D) := ⟨fun pins s _ _ _ I h => h pins s I⟩
theorem RE.of {t : TE} (h : PE X e t) {σ : L2.St} {H : Hp} {Q : VK} (q : t σ H Q) : RE X e σ H Q := fun pins s I => h.run pins s σ H Q I q
theorem RT.of {t : TT} (h : PT X e t) {σ : L2.St} {H : Hp} {Q : Bool → Hp → Prop} (q : t σ H Q) : RT X e σ H Q := fun pins s I => h.run pins s σ H Q I q
theorem RA.of {t : TA} (h : PA X es t) {σ : L2.St} {H : Hp} {Q : List V → Hp → Prop} (q : t σ H Q) : RA X es σ H Q := fun pos pins s I => h.run pos pins s σ H Q I q
theorem RS.of {t : TS} (h : PS X st t) {σ : L2.St} {H : Hp} {D : Ends} (q : t D σ H) : RS X st σ H D := fun pins s I => h.run pins s σ H D I q
theorem RB.of {t : TS} (h : PSs X sts t) {σ : L2.St} {H : Hp} {D : Ends} (q : t D σ H) : RB X sts σ H D := fun pins s I => h.run pins s σ H D I q
theorem RE.imp {σ : L2.St} {H : Hp} {Q Q' : VK} (h : RE X e σ H Q) (q : ∀ v H', Q v H' → Q' v H') : RE X e σ H Q' := fun pins s I =>
  thn (h pins s I) fun _ _ ⟨v, H', I', r, z⟩ => ⟨v, H', I', r, q v H' z⟩
end

/-! ### what an expression gives, over a base that may grow; all else of the heap stays -/
/-- some data with P -/
def EN (X : Cx) (e : Expr) (σ : L2.St) (B : Hp) (P : D → Prop) : Prop :=
  ∀ B1 H, Ex B B1 → Ex B1 H → ∀ Q : VK, (∀ v d B' H', Step B1 H B' H' → P d → Rp X.K B' d v → Q v H') → RE X e σ H Q
def ET (X : Cx) (e : Expr) (σ : L2.St) (B : Hp) (P : Bool → Prop) : Prop :=
  ∀ B1 H, Ex B B1 → Ex B1 H → ∀ Q : Bool → Hp → Prop, (∀ b B' H', Step B1 H B' H' → P b → Q b H') → RT X e σ H Q
def EA (X : Cx) (es : List Expr) (σ : L2.St) (B : Hp) (P : List D → Prop) : Prop :=
  ∀ B1 H, Ex B B1 → Ex B1 H → ∀ Q : List V → Hp → Prop, (∀ vs ds B' H', Step B1 H B' H' → P ds → RpL X.K B' ds vs → Q vs H') → RA X es σ H Q
/-- a new list of one's own, its items -/
def EF (X : Cx) (e : Expr) (σ : L2.St) (B : Hp) (P : List D → Prop) : Prop :=
  ∀ B1 H, Ex B B1 → Ex B1 H → ∀ Q : VK, (∀ p ds vs B' H', Step B1 H B' H' → H p = none → B' p = none → H' p = some (.lst vs) → P ds → RpL X.K B' ds vs → Q (.ref p) H') → RE X e σ H Q
section
variable {X : Cx} {e a b c : Expr} {es : List Expr} {σ : L2.St} {B B' : Hp} {P P' : D → Prop} {PL PL' : List D → Prop} {PB : Bool → Prop}
theorem EN.mono (h : EN X e σ B P) (x : Ex B B') : EN X e σ B' P := fun B1 H e1 e2 => h B1 H (x.trans e1) e2
theorem ET.mono (h : ET X e σ B PB) (x : Ex B B') : ET X e σ B' PB := fun B1 H e1 e2 => h B1 H (x.trans e1) e2
theorem EA.mono (h : EA X es σ B PL) (x : Ex B B') : EA X es σ B' PL := fun B1 H e1 e2 => h B1 H (x.trans e1) e2
theorem EF.mono (h : EF X e σ B PL) (x : Ex B B') : EF X e σ B' PL := fun B1 H e1 e2 => h B1 H (x.trans e1) e2
theorem EN.imp (h : EN X e σ B P) (q : ∀ d, P d → P' d) : EN X e σ B P' := fun B1 H e1 e2 Q k => h B1 H e1 e2 Q fun v d B' H' s p r => k v d B' H' s (q d p) r
theorem EN.eq {d d' : D} (h : EN X e σ B (Eq d)) (q : d = d') : EN X e σ B (Eq d') := q ▸ h
theorem ET.imp {PB' : Bool → Prop} (h : ET X e σ B PB) (q : ∀ d, PB d → PB' d) : ET X e σ B PB' := fun B1 H e1 e2 Q k => h B1 H e1 e2 Q fun b B' H' s p => k b B' H' s (q b p)
theorem ET.eq {d d' : Bool} (h : ET X e σ B (Eq d)) (q : d = d') : ET X e σ B (Eq d') := q ▸ h
theorem EA.imp (h : EA X es σ B PL) (q : ∀ d, PL d → PL' d) : EA X es σ B PL' := fun B1 H e1 e2 Q k => h B1 H e1 e2 Q fun v d B' H' s p r => k v d B' H' s (q d p) r
theorem EF.imp (h : EF X e σ B PL) (q : ∀ d, PL d → PL' d) : EF X e σ B PL' := fun B1 H e1 e2 Q k => h B1 H e1 e2 Q fun p ds vs B' H' s h0 h1 h2 pl r => k p ds vs B' H' s h0 h1 h2 (q ds pl) r
/-- a list of one's own is shared at once -/
theorem EF.sh (h : EF X e σ B PL) : EN X e σ B (fun d => ∃ ds, d = .lst ds ∧ PL ds) := fun B1 H e1 e2 Q k => h B1 H e1 e2 Q fun p ds vs B' H' s h0 h1 h2 pl r =>
  k (.ref p) (.lst ds) _ H' (s.share h0 h1 h2) ⟨ds, rfl, pl⟩ (by
    simp only [Rp]
    exact ⟨p, vs, rfl, upd_same, r.mono (Ex.new h1)⟩)
theorem EF.shEq {ds : List D} (h : EF X e σ B (Eq ds)) : EN X e σ B (Eq (.lst ds)) := h.sh.imp fun _ ⟨_, q, z⟩ => by rw [q, z]

/-! names and constants -/
theorem en_var {i : Nat} {x : Str} {pos : Pos} {v : V} {d : D} (h : σ[i]? = some (some v)) (r : Rp X.K B d v) (hN : X.N[i]? = some x := by rfl) (hv : Vis X.env.scope x := by first | exact Or.inl rfl | exact Or.inr (Or.inl rfl) | exact Or.inr (Or.inr rfl))
    (hd : (x == ("__debug__" : Str)) = false := by decide) (hcd : (x == ("__classdict__" : Str)) = false := by decide) : EN X (.Name x pos) σ B (Eq d) := fun B1 H e1 e2 Q k =>
  RE.of (pe_var hN hv hd hcd) ⟨v, h, k v d B1 H (Step.refl e2) rfl (r.mono e1)⟩
theorem en_int {i : Int} {j : Nat} {pos : Pos} : EN X (.Constant (.int i) j pos) σ B (Eq (.int i)) := fun B1 H _ e2 Q k => RE.of pe_int (k _ _ B1 H (Step.refl e2) rfl (by simp only [Rp]))
theorem en_bl {i : Bool} {j : Nat} {pos : Pos} : EN X (.Constant (.bool i) j pos) σ B (Eq (.bl i)) := fun B1 H _ e2 Q k => RE.of pe_bl (k _ _ B1 H (Step.refl e2) rfl (by simp only [Rp]))
theorem en_non {j : Nat} {pos : Pos} : EN X (.Constant .none j pos) σ B (Eq .non) := fun B1 H _ e2 Q k => RE.of pe_non (k _ _ B1 H (Step.refl e2) rfl (by simp only [Rp]))
theorem en_str {x : Str} {j : Nat} {pos : Pos} : EN X (.Constant (.str x) j pos) σ B (Eq (.str x)) := fun B1 H _ e2 Q k => RE.of pe_str (k _ _ B1 H (Step.refl e2) rfl (by simp only [Rp]))
/-- a constant of the module that is an int, a bool, a text, a class, a def -/
theorem en_glob {x : Str} {v : V} {d : D} {u : Value} {pos : Pos} (hm : X.mg x = some u) (r : RelV v u) (hd : Rp X.K (fun _ => none) d v) (hg : Gl X x := by rfl) (hdb : (x == ("__debug__" : Str)) = false := by decide) : EN X (.Name x pos) σ B (Eq d) := fun B1 H _ e2 Q k =>
  RE.of (pe_glob hg hm r hdb) (k v d B1 H (Step.refl e2) rfl (hd.mono (fun a o z => by cases z)))

/-! argument lists -/
theorem ea_nil : EA X [] σ B (Eq []) := fun B1 H _ e2 Q k => RA.of pa_nil (k [] [] B1 H (Step.refl e2) rfl RpL.nil)
theorem ea_consN (h : EN X e σ B P) (t : EA X es σ B PL) (hs : starEach (e :: es) X.env = (false, eval e X.env) :: starEach es X.env := by rfl) : EA X (e :: es) σ B (fun l => ∃ d ds, l = d :: ds ∧ P d ∧ PL ds) := fun B1 H e1 e2 Q k =>
  RA.of (pa_cons cE cA hs) (h B1 H e1 e2 _ fun v d B' H' s p r => t B' H' (e1.trans s.b) s.bh _ fun vs ds B'' H'' s' p' r' => k (v :: vs) (d :: ds) B'' H'' (s.trans s') ⟨d, ds, rfl, p, p'⟩ (RpL.cons (r.mono s'.b) r'))
theorem ea_cons {d : D} {ds : List D} (h : EN X e σ B (Eq d)) (t : EA X es σ B (Eq ds)) (hs : starEach (e :: es) X.env = (false, eval e X.env) :: starEach es X.env := by rfl) : EA X (e :: es) σ B (Eq (d :: ds)) :=
  (ea_consN h t hs).imp fun _ ⟨_, _, q, z, z'⟩ => by rw [q, z, z']

/-! displays -/
theorem ef_lst {pos : Pos} (h : EA X es σ B PL) (hl : ∀ ds, PL ds → ds.length ≤ sizeLine) : EF X (.List es pos) σ B PL := fun B1 H e1 e2 Q k =>
  RE.of (pe_lst cA) (h B1 H e1 e2 _ fun vs ds B' H' s p r => ⟨by rw [← r.length]; exact hl ds p, fun q hq => k q ds vs B' _ (s.trans (Step.own s.bh hq)) (s.h.back hq) (s.bh.back hq) upd_same p r⟩)
theorem en_tupN {pos : Pos} {x1} (h : EA X es σ B PL) (hl : ∀ ds, PL ds → ds.length ≤ sizeLine) : EN X (.Tuple es x1 pos) σ B (fun d => ∃ ds, d = .tup ds ∧ PL ds) := fun B1 H e1 e2 Q k =>
  RE.of (pe_tup cA) (h B1 H e1 e2 _ fun vs ds B' H' s p r => ⟨by rw [← r.length]; exact hl ds p, fun q hq =>
    k (.ref q) (.tup ds) _ _ (s.trans (Step.alloc s.bh hq)) ⟨ds, rfl, p⟩ (by simp only [Rp]; exact ⟨q, vs, rfl, SqT.of upd_same, r.mono (Ex.new (s.bh.back hq))⟩)⟩)
theorem en_tup {pos : Pos} {x1} {ds : List D} (h : EA X es σ B (Eq ds)) (hl : ds.length ≤ sizeLine := by decide) : EN X (.Tuple es x1 pos) σ B (Eq (.tup ds)) :=
  (en_tupN h (fun _ q => q ▸ hl)).imp fun _ ⟨_, q, z⟩ => by rw [q, z]
theorem en_lst {pos : Pos} {ds : List D} (h : EA X es σ B (Eq ds)) (hl : ds.length ≤ sizeLine := by decide) : EN X (.List es pos) σ B (Eq (.lst ds)) := (ef_lst h (fun _ q => q ▸ hl)).shEq

/-! ### operations by data -/
/-- an operation on the data x, y gives data with P (perhaps new) -/
def OD (X : Cx) (f : Value → Value → Sem Value) (x y : D) (P : D → Prop) : Prop :=
  ∃ r, OpR X f r ∧ ∀ v u B H (Q : VK), Ex B H → Rp X.K B x v → Rp X.K B y u → (∀ z d B' H', Step B H B' H' → P d → Rp X.K B' d z → Q z H') → r v u H Q
/-- .. a new list of one's own -/
def ODF (X : Cx) (f : Value → Value → Sem Value) (x y : D) (P : List D → Prop) : Prop :=
  ∃ r, OpR X f r ∧ ∀ v u B H (Q : VK), Ex B H → Rp X.K B x v → Rp X.K B y u → (∀ p ds vs B' H', Step B H B' H' → H p = none → B' p = none → H' p = some (.lst vs) → P ds → RpL X.K B' ds vs → Q (.ref p) H') → r v u H Q
theorem run_op {f : Value → Value → Sem Value} {x y : D} {v u : V} {vv uu : Value} {H : Hp} {B : Hp} {Q : VK} {pins : List (Addr × Obj)} {s : Shared} (o : OD X f x y P) (I : Inv X pins σ H s) (e : Ex B H) (rx : Rp X.K B x v) (ry : Rp X.K B y u) (hx : RelV v vv) (hy : RelV u uu)
    (k : ∀ z d B' H', Step B H B' H' → P d → Rp X.K B' d z → Q z H') : wpAny (model X.prog X.w) X.A (f vv uu) (EP X pins σ Q) X.xe s := by
  obtain ⟨r, hr, q⟩ := o
  exact hr pins s σ H v u vv uu Q I hx hy (q v u B H Q e rx ry k)
variable {Pa Pb : D → Prop}
/-- two expressions, an operation of their values -/
theorem en_bin {f : Value → Value → Sem Value} {g : Expr} (hg : ∀ r, OpR X f r → PE X g (tOp r (RE X a) (RE X b))) (ha : EN X a σ B Pa) (hb : EN X b σ B Pb) (o : ∀ x y, Pa x → Pb y → OD X f x y P) : EN X g σ B P := fun B1 H e1 e2 Q k => by
  -- the rule must be chosen ahead of the run: the disjunction over all data
  let R : R2 := fun v u H Q => ∃ x y B, Pa x ∧ Pb y ∧ Ex B H ∧ Rp X.K B x v ∧ Rp X.K B y u ∧ ∀ z d B' H', Step B H B' H' → P d → Rp X.K B' d z → Q z H'
  have hR : OpR X f R := fun pins s σ H v u vv uu Q I hx hy ⟨x, y, B, px, py, e, rx, ry, k⟩ => run_op (o x y px py) I e rx ry hx hy k
  exact RE.of (hg R hR) (ha B1 H e1 e2 _ fun v x B2 H2 s p r => hb B2 H2 (e1.trans s.b) s.bh _ fun u y B3 H3 s' p' r' =>
    ⟨x, y, B3, p, p', s'.bh, r.mono s'.b, r', fun z d B' H' s'' pd rd => k z d B' H' ((s.trans s').trans s'') pd rd⟩)
theorem en_op {op : Operator} {pos : Pos} (ha : EN X a σ B Pa) (hb : EN X b σ B Pb) (o : ∀ x y, Pa x → Pb y → OD X (binaryOp op) x y P) : EN X (.BinOp a op b pos) σ B P :=
  en_bin (f := binaryOp op) (fun r hr => pe_op hr cE cE) ha hb o
theorem en_cmp {op : CmpOp} {pos : Pos} (ha : EN X a σ B Pa) (hb : EN X b σ B Pb) (o : ∀ x y, Pa x → Pb y → OD X (compareOp op) x y P) (hm : behindInMarks op b = false := by first | exact nomark _ | rfl) : EN X (.Compare a [op] [b] pos) σ B P :=
  en_bin (f := compareOp op) (fun r hr => pe_cmpR hr cE cE hm) ha hb o
theorem ed_op {op : Operator} {pos : Pos} {x y : D} (ha : EN X a σ B (Eq x)) (hb : EN X b σ B (Eq y)) (o : OD X (binaryOp op) x y P) : EN X (.BinOp a op b pos) σ B P := en_op ha hb fun _ _ p q => p ▸ q ▸ o
theorem ed_cmp {op : CmpOp} {pos : Pos} {x y : D} (ha : EN X a σ B (Eq x)) (hb : EN X b σ B (Eq y)) (o : OD X (compareOp op) x y P) (hm : behindInMarks op b = false := by first | exact nomark _ | rfl) : EN X (.Compare a [op] [b] pos) σ B P := en_cmp ha hb (fun _ _ p q => p ▸ q ▸ o) hm
/-- .. that gives a new list -/
theorem ef_op {op : Operator} {pos : Pos} {PL : List D → Prop} (ha : EN X a σ B Pa) (hb : EN X b σ B Pb) (o : ∀ x y, Pa x → Pb y → ODF X (binaryOp op) x y PL) : EF X (.BinOp a op b pos) σ B PL := fun B1 H e1 e2 Q k => by
  let R : R2 := fun v u H Q => ∃ x y B, Pa x ∧ Pb y ∧ Ex B H ∧ Rp X.K B x v ∧ Rp X.K B y u ∧ ∀ p ds vs B' H', Step B H B' H' → H p = none → B' p = none → H' p = some (.lst vs) → PL ds → RpL X.K B' ds vs → Q (.ref p) H'
  have hR : OpR X (binaryOp op) R := fun pins s σ H v u vv uu Q I hx hy ⟨x, y, B, px, py, e, rx, ry, k⟩ => by
    obtain ⟨r, hr, q⟩ := o x y px py
    exact hr pins s σ H v u vv uu Q I hx hy (q v u B H Q e rx ry k)
  exact RE.of (pe_op hR cE cE) (ha B1 H e1 e2 _ fun v x B2 H2 s p r => hb B2 H2 (e1.trans s.b) s.bh _ fun u y B3 H3 s' p' r' =>
    ⟨x, y, B3, p, p', s'.bh, r.mono s'.b, r', fun q ds vs B' H' s'' h0 h1 h2 pd rd => k q ds vs B' H' ((s.trans s').trans s'') ((s.trans s').h.back h0) h1 h2 pd rd⟩)

/-- a built-in's call on the data ds gives data with P -/
def CD (X : Cx) (f : Value) (ds : List D) (P : D → Prop) : Prop :=
  ∃ r, CallR X f r ∧ ∀ vs B H (Q : VK), Ex B H → RpL X.K B ds vs → (∀ z d B' H', Step B H B' H' → P d → Rp X.K B' d z → Q z H') → r vs H Q
def CDF (X : Cx) (f : Value) (ds : List D) (P : List D → Prop) : Prop :=
  ∃ r, CallR X f r ∧ ∀ vs B H (Q : VK), Ex B H → RpL X.K B ds vs → (∀ p es ws B' H', Step B H B' H' → H p = none → B' p = none → H' p = some (.lst ws) → P es → RpL X.K B' es ws → Q (.ref p) H') → r vs H Q
theorem en_callG {f : Value} {g : Expr} (hg : ∀ r, CallR X f r → PE X g (tCB r (RA X es))) (ha : EA X es σ B PL) (o : ∀ ds, PL ds → CD X f ds P) : EN X g σ B P := fun B1 H e1 e2 Q k => by
  let R : List V → Hp → VK → Prop := fun vs H Q => ∃ ds B, PL ds ∧ Ex B H ∧ RpL X.K B ds vs ∧ ∀ z d B' H', Step B H B' H' → P d → Rp X.K B' d z → Q z H'
  have hR : CallR X f R := fun pins s σ H vs us Q I hv ⟨ds, B, p, e, r, k⟩ => by
    obtain ⟨r', hr, q⟩ := o ds p
    exact hr pins s σ H vs us Q I hv (q vs B H Q e r k)
  exact RE.of (hg R hR) (ha B1 H e1 e2 _ fun vs ds B2 H2 s p r => ⟨ds, B2, p, s.bh, r, fun z d B' H' s'' pd rd => k z d B' H' (s.trans s'') pd rd⟩)
theorem ef_callG {f : Value} {g : Expr} {PR : List D → Prop} (hg : ∀ r, CallR X f r → PE X g (tCB r (RA X es))) (ha : EA X es σ B PL) (o : ∀ ds, PL ds → CDF X f ds PR) : EF X g σ B PR := fun B1 H e1 e2 Q k => by
  let R : List V → Hp → VK → Prop := fun vs H Q => ∃ ds B, PL ds ∧ Ex B H ∧ RpL X.K B ds vs ∧ ∀ p es ws B' H', Step B H B' H' → H p = none → B' p = none → H' p = some (.lst ws) → PR es → RpL X.K B' es ws → Q (.ref p) H'
  have hR : CallR X f R := fun pins s σ H vs us Q I hv ⟨ds, B, p, e, r, k⟩ => by
    obtain ⟨r', hr, q⟩ := o ds p
    exact hr pins s σ H vs us Q I hv (q vs B H Q e r k)
  exact RE.of (hg R hR) (ha B1 H e1 e2 _ fun vs ds B2 H2 s p r => ⟨ds, B2, p, s.bh, r, fun q es ws B' H' s'' h0 h1 h2 pd rd => k q es ws B' H' (s.trans s'') (s.h.back h0) h1 h2 pd rd⟩)
variable {x : Str} {p pos : Pos} {id : String}
/-- f(..) of a built-in function, of a built-in class -/
theorem en_callB (hm : X.mg x = none) (hv : bootBuiltins x = some (.builtin id)) (ha : EA X (e :: es) σ B PL) (o : ∀ ds, PL ds → CD X (.builtin id) ds P) (hg : Gl X x := by rfl) (hn : x ≠ "__name__" := by decide) (hdb : (x == ("__debug__" : Str)) = false := by decide) (he : starEach (e :: es) X.env = (false, eval e X.env) :: starEach es X.env := by rfl) (hpl : (backTo pos (starEach es X.env)).any (·.1) = false := by rfl) : EN X (.Call (.Name x p) (e :: es) [] pos) σ B P :=
  en_callG (fun r hr => pe_callB hr hg hm hv cA hn hdb he hpl) ha o
theorem en_callTy (hm : X.mg x = none) (hv : bootBuiltins x = some (.type id)) (ha : EA X (e :: es) σ B PL) (o : ∀ ds, PL ds → CD X (.type id) ds P) (hg : Gl X x := by rfl) (hn : x ≠ "__name__" := by decide) (hdb : (x == ("__debug__" : Str)) = false := by decide) (he : starEach (e :: es) X.env = (false, eval e X.env) :: starEach es X.env := by rfl) (hpl : (backTo pos (starEach es X.env)).any (·.1) = false := by rfl) : EN X (.Call (.Name x p) (e :: es) [] pos) σ B P :=
  en_callG (fun r hr => pe_callTy hr hg hm hv cA hn hdb he hpl) ha o
theorem ef_callB {PR : List D → Prop} (hm : X.mg x = none) (hv : bootBuiltins x = some (.builtin id)) (ha : EA X (e :: es) σ B PL) (o : ∀ ds, PL ds → CDF X (.builtin id) ds PR) (hg : Gl X x := by rfl) (hn : x ≠ "__name__" := by decide) (hdb : (x == ("__debug__" : Str)) = false := by decide) (he : starEach (e :: es) X.env = (false, eval e X.env) :: starEach es X.env := by rfl) (hpl : (backTo pos (starEach es X.env)).any (·.1) = false := by rfl) : EF X (.Call (.Name x p) (e :: es) [] pos) σ B PR :=
  ef_callG (fun r hr => pe_callB hr hg hm hv cA hn hdb he hpl) ha o
theorem ef_callTy {PR : List D → Prop} (hm : X.mg x = none) (hv : bootBuiltins x = some (.type id)) (ha : EA X (e :: es) σ B PL) (o : ∀ ds, PL ds → CDF X (.type id) ds PR) (hg : Gl X x := by rfl) (hn : x ≠ "__name__" := by decide) (hdb : (x == ("__debug__" : Str)) = false := by decide) (he : starEach (e :: es) X.env = (false, eval e X.env) :: starEach es X.env := by rfl) (hpl : (backTo pos (starEach es X.env)).any (·.1) = false := by rfl) : EF X (.Call (.Name x p) (e :: es) [] pos) σ B PR :=
  ef_callG (fun r hr => pe_callTy hr hg hm hv cA hn hdb he hpl) ha o
end
end Fx
set_option Elab.async false
set_option linter.all false
set_option maxRecDepth 100000
set_option maxHeartbeats 2000000
/-! Fx, part 3: operations, tests, subscripts, slices, built-ins by data. -/
namespace Fx
open PySem L2

theorem Rp.int {K : PySem.W.Frag} {H : Hp} {i : Int} {v : V} : Rp K H (.int i) v ↔ v = .int i := by simp only [Rp]
theorem Rp.str {K : PySem.W.Frag} {H : Hp} {i : Str} {v : V} : Rp K H (.str i) v ↔ v = .str i := by simp only [Rp]
theorem Rp.bl {K : PySem.W.Frag} {H : Hp} {i : Bool} {v : V} : Rp K H (.bl i) v ↔ v = .bl i := by simp only [Rp]
theorem Rp.non {K : PySem.W.Frag} {H : Hp} {v : V} : Rp K H .non v ↔ v = .non := by simp only [Rp]
theorem Rp.lst {K : PySem.W.Frag} {H : Hp} {ds : List D} {v : V} : Rp K H (.lst ds) v ↔ ∃ a xs, v = .ref a ∧ H a = some (.lst xs) ∧ RpL K H ds xs := by simp only [Rp]
theorem Rp.tup {K : PySem.W.Frag} {H : Hp} {ds : List D} {v : V} : Rp K H (.tup ds) v ↔ ∃ a xs, v = .ref a ∧ SqT K H a xs ∧ RpL K H ds xs := by simp only [Rp]

section
variable {X : Cx} {P : D → Prop}

/-! ### ints, texts -/
theorem od_I0 {f : Value → Value → Sem Value} {g : Int → Int → V} {d : Int → Int → D} (h : OpR X f (rI0 g)) (hd : ∀ i j K H, Rp K H (d i j) (g i j)) {i j : Int} : OD X f (.int i) (.int j) (Eq (d i j)) :=
  ⟨_, h, fun v u B H Q e rx ry k => ⟨i, j, Rp.int.mp rx, Rp.int.mp ry, k _ _ B H (Step.refl e) rfl (hd _ _ _ _)⟩⟩
theorem od_I {f : Value → Value → Sem Value} {C : Int → Int → Prop} {g : Int → Int → V} {d : Int → Int → D} (h : OpR X f (rI C g)) (hd : ∀ i j K H, Rp K H (d i j) (g i j)) {i j : Int} (hc : C i j) : OD X f (.int i) (.int j) (Eq (d i j)) :=
  ⟨_, h, fun v u B H Q e rx ry k => ⟨i, j, Rp.int.mp rx, Rp.int.mp ry, hc, k _ _ B H (Step.refl e) rfl (hd _ _ _ _)⟩⟩
theorem od_add {i j : Int} : OD X (binaryOp .Add) (.int i) (.int j) (Eq (.int (i + j))) := od_I0 (d := fun i j => .int (i + j)) op_add (fun _ _ _ _ => Rp.int.mpr rfl)
theorem od_sub {i j : Int} : OD X (binaryOp .Sub) (.int i) (.int j) (Eq (.int (i - j))) := od_I0 (d := fun i j => .int (i - j)) op_sub (fun _ _ _ _ => Rp.int.mpr rfl)
theorem od_mul {i j : Int} (h : CMul i j) : OD X (binaryOp .Mult) (.int i) (.int j) (Eq (.int (i * j))) := od_I (d := fun i j => .int (i * j)) op_mul (fun _ _ _ _ => Rp.int.mpr rfl) h
theorem od_mod {i j : Int} (h : 0 < j) : OD X (binaryOp .Mod) (.int i) (.int j) (Eq (.int (i % j))) := od_I (d := fun i j => .int (i % j)) op_mod (fun _ _ _ _ => Rp.int.mpr rfl) h
theorem od_fdiv {i j : Int} (h : CDiv i j) : OD X (binaryOp .FloorDiv) (.int i) (.int j) (Eq (.int (i / j))) := od_I (d := fun i j => .int (i / j)) op_fdiv (fun _ _ _ _ => Rp.int.mpr rfl) h
theorem od_pow {i j : Int} (h : CPow i j) : OD X (binaryOp .Pow) (.int i) (.int j) (Eq (.int (i ^ j.toNat))) := od_I (d := fun i j => .int (i ^ j.toNat)) op_pow (fun _ _ _ _ => Rp.int.mpr rfl) h
theorem od_lt {i j : Int} : OD X (compareOp .Lt) (.int i) (.int j) (Eq (.bl (decide (i < j)))) := od_I0 (d := fun i j => .bl (decide (i < j))) op_lt (fun _ _ _ _ => Rp.bl.mpr rfl)
theorem od_le {i j : Int} : OD X (compareOp .LtE) (.int i) (.int j) (Eq (.bl (decide (i ≤ j)))) := od_I0 (d := fun i j => .bl (decide (i ≤ j))) op_le (fun _ _ _ _ => Rp.bl.mpr rfl)
theorem od_gt {i j : Int} : OD X (compareOp .Gt) (.int i) (.int j) (Eq (.bl (decide (j < i)))) := od_I0 (d := fun i j => .bl (decide (j < i))) op_gt (fun _ _ _ _ => Rp.bl.mpr rfl)
theorem od_ge {i j : Int} : OD X (compareOp .GtE) (.int i) (.int j) (Eq (.bl (decide (j ≤ i)))) := od_I0 (d := fun i j => .bl (decide (j ≤ i))) op_ge (fun _ _ _ _ => Rp.bl.mpr rfl)
/-- data without an address -/
def D.sc : D → Option V
  | .non => some .non | .bl b => some (.bl b) | .int i => some (.int i) | .str x => some (.str x) | _ => none
theorem Rp.sc {K : PySem.W.Frag} {H : Hp} : ∀ {d : D} {v w : V}, Rp K H d v → d.sc = some w → v = w := by
  intro d v w r h
  cases d <;> simp only [D.sc, Rp] at h r <;> first | (cases h; exact r) | exact nomatch h
theorem od_eqS {x y : D} {v w : V} (hx : x.sc = some v) (hy : y.sc = some w) (hs : scal v w = true) : OD X (compareOp .Eq) x y (Eq (.bl (decide (v = w)))) :=
  ⟨_, op_eq, fun a b B H Q e rx ry k => by
    rw [rx.sc hx, ry.sc hy]
    exact ⟨hs, k _ _ B H (Step.refl e) rfl (Rp.bl.mpr rfl)⟩⟩
theorem od_neS {x y : D} {v w : V} (hx : x.sc = some v) (hy : y.sc = some w) (hs : scal v w = true) : OD X (compareOp .NotEq) x y (Eq (.bl (!decide (v = w)))) :=
  ⟨_, op_ne, fun a b B H Q e rx ry k => by
    rw [rx.sc hx, ry.sc hy]
    exact ⟨hs, k _ _ B H (Step.refl e) rfl (Rp.bl.mpr rfl)⟩⟩
theorem od_eqI {i j : Int} : OD X (compareOp .Eq) (.int i) (.int j) (Eq (.bl (decide (i = j)))) := by
  have h := od_eqS (X := X) (x := .int i) (y := .int j) rfl rfl rfl
  rwa [show decide (V.int i = V.int j) = decide (i = j) from by simp] at h
theorem od_neI {i j : Int} : OD X (compareOp .NotEq) (.int i) (.int j) (Eq (.bl (!decide (i = j)))) := by
  have h := od_neS (X := X) (x := .int i) (y := .int j) rfl rfl rfl
  rwa [show decide (V.int i = V.int j) = decide (i = j) from by simp] at h
theorem od_eqT {i j : Str} : OD X (compareOp .Eq) (.str i) (.str j) (Eq (.bl (decide (i = j)))) := by
  have h := od_eqS (X := X) (x := .str i) (y := .str j) rfl rfl rfl
  rwa [show decide (V.str i = V.str j) = decide (i = j) from by simp] at h
theorem od_neT {i j : Str} : OD X (compareOp .NotEq) (.str i) (.str j) (Eq (.bl (!decide (i = j)))) := by
  have h := od_neS (X := X) (x := .str i) (y := .str j) rfl rfl rfl
  rwa [show decide (V.str i = V.str j) = decide (i = j) from by simp] at h
theorem od_eqB {i j : Bool} : OD X (compareOp .Eq) (.bl i) (.bl j) (Eq (.bl (decide (i = j)))) := by
  have h := od_eqS (X := X) (x := .bl i) (y := .bl j) rfl rfl rfl
  rwa [show decide (V.bl i = V.bl j) = decide (i = j) from by simp] at h
theorem od_neB {i j : Bool} : OD X (compareOp .NotEq) (.bl i) (.bl j) (Eq (.bl (!decide (i = j)))) := by
  have h := od_neS (X := X) (x := .bl i) (y := .bl j) rfl rfl rfl
  rwa [show decide (V.bl i = V.bl j) = decide (i = j) from by simp] at h
theorem od_addS {i j : Str} (h : i.length + j.length ≤ sizeLine) : OD X (binaryOp .Add) (.str i) (.str j) (Eq (.str (i ++ j))) :=
  ⟨_, op_add_str, fun v u B H Q e rx ry k => ⟨i, j, Rp.str.mp rx, Rp.str.mp ry, h, k _ _ B H (Step.refl e) rfl (Rp.str.mpr rfl)⟩⟩
theorem od_ltS {i j : Str} : OD X (compareOp .Lt) (.str i) (.str j) (Eq (.bl (decide (i.cps.toList < j.cps.toList)))) :=
  ⟨_, op_lt_str, fun v u B H Q e rx ry k => ⟨i, j, Rp.str.mp rx, Rp.str.mp ry, k _ _ B H (Step.refl e) rfl (Rp.bl.mpr rfl)⟩⟩
/-- one sign in a text -/
theorem od_inC {c : Nat} {z : Str} : OD X (compareOp .In) (.str ⟨#[c]⟩) (.str z) (Eq (.bl (decide (c ∈ z.cps.toList)))) :=
  ⟨_, op_in_sign, fun v u B H Q e rx ry k => ⟨c, z, Rp.str.mp rx, Rp.str.mp ry, k _ _ B H (Step.refl e) rfl (Rp.bl.mpr rfl)⟩⟩
/-- None -/
def D.isNon : D → Bool
  | .non => true | _ => false
theorem Rp.isNon {K : PySem.W.Frag} {H : Hp} {d : D} {v : V} (r : Rp K H d v) : decide (v = .non) = d.isNon := by
  cases d with
  | non => simp only [Rp] at r; subst r; rfl
  | bl _ => simp only [Rp] at r; subst r; rfl
  | int _ => simp only [Rp] at r; subst r; rfl
  | str _ => simp only [Rp] at r; subst r; rfl
  | ref _ => simp only [Rp] at r; subst r; rfl
  | ty _ => simp only [Rp] at r; subst r; rfl
  | lst _ => simp only [Rp] at r; obtain ⟨_, _, rfl, _⟩ := r; rfl
  | tup _ => simp only [Rp] at r; obtain ⟨_, _, rfl, _⟩ := r; rfl
  | obj _ _ => simp only [Rp] at r; obtain ⟨_, _, _, rfl, _⟩ := r; rfl
  | dic _ => simp only [Rp] at r; obtain ⟨_, _, rfl, _⟩ := r; rfl
  | pot => simp only [Rp] at r; obtain ⟨_, rfl, _⟩ := r; rfl
  | scr _ => simp only [Rp] at r; obtain ⟨_, rfl, _⟩ := r; rfl
theorem od_isN {x : D} : OD X (compareOp .Is) x .non (Eq (.bl x.isNon)) :=
  ⟨_, op_isN, fun v u B H Q e rx ry k => ⟨Rp.non.mp ry, k _ _ B H (Step.refl e) rfl (by rw [rx.isNon]; exact Rp.bl.mpr rfl)⟩⟩
theorem od_notN {x : D} : OD X (compareOp .IsNot) x .non (Eq (.bl (!x.isNon))) :=
  ⟨_, op_notN, fun v u B H Q e rx ry k => ⟨Rp.non.mp ry, k _ _ B H (Step.refl e) rfl (by rw [rx.isNon]; exact Rp.bl.mpr rfl)⟩⟩

/-! ### == of plain data, by the library's own look -/
mutual
def D.py : D → PyData
  | .non => .none | .bl b => .bool b | .int i => .int i | .str x => .str x
  | .lst ds => .list (D.pys ds) | .tup ds => .tuple (D.pys ds)
  | _ => .none
def D.pys : List D → List PyData
  | [] => [] | d :: ds => d.py :: D.pys ds
end
mutual
/-- None, bools, ints, texts, lists and tuples alone -/
def D.plain : D → Bool
  | .non => true | .bl _ => true | .int _ => true | .str _ => true
  | .lst ds => D.plains ds | .tup ds => D.plains ds
  | _ => false
def D.plains : List D → Bool
  | [] => true | d :: ds => d.plain && D.plains ds
end
mutual
theorem Rp.dp {K : PySem.W.Frag} {H : Hp} : ∀ {d : D} {v : V}, d.plain = true → Rp K H d v → Dp K H v d.py
  | .non, _, _, r => by rw [Rp.non.mp r]; simp only [D.py]; exact .non
  | .bl b, _, _, r => by rw [Rp.bl.mp r]; simp only [D.py]; exact .bl b
  | .int b, _, _, r => by rw [Rp.int.mp r]; simp only [D.py]; exact .int b
  | .str b, _, _, r => by rw [Rp.str.mp r]; simp only [D.py]; exact .str b
  | .lst ds, _, h, r => by
    obtain ⟨a, xs, rfl, h1, h2⟩ := Rp.lst.mp r
    simp only [D.py]
    exact .lst (SqL.of h1) (RpL.dp (by simpa only [D.plain] using h) h2)
  | .tup ds, _, h, r => by
    obtain ⟨a, xs, rfl, h1, h2⟩ := Rp.tup.mp r
    simp only [D.py]
    exact .tup h1 (RpL.dp (by simpa only [D.plain] using h) h2)
  | .ref _, _, h, _ => by simp [D.plain] at h
  | .ty _, _, h, _ => by simp [D.plain] at h
  | .obj _ _, _, h, _ => by simp [D.plain] at h
  | .dic _, _, h, _ => by simp [D.plain] at h
  | .pot, _, h, _ => by simp [D.plain] at h
  | .scr _, _, h, _ => by simp [D.plain] at h
theorem RpL.dp {K : PySem.W.Frag} {H : Hp} : ∀ {ds : List D} {vs : List V}, D.plains ds = true → RpL K H ds vs → DpAll K H vs (D.pys ds)
  | [], _, _, r => by simp only [RpL] at r; subst r; simp only [D.pys]; exact .nil
  | d :: ds, _, h, r => by
    simp only [RpL] at r
    obtain ⟨v, t, rfl, h1, h2⟩ := r
    simp only [D.plains, Bool.and_eq_true] at h
    simp only [D.pys]
    exact .cons (Rp.dp h.1 h1) (RpL.dp h.2 h2)
end
theorem od_eqD {x y : D} (hu : X.A.units + 64 < cLine) (px : x.plain = true) (py : y.plain = true) (sx : SeqAt.shaped x.py = true) (sy : SeqAt.shaped y.py = true) : OD X (compareOp .Eq) x y (Eq (.bl (PyData.eqv x.py y.py))) :=
  ⟨_, op_eqD hu, fun v u B H Q e rx ry k => ⟨x.py, y.py, (rx.mono e).dp px, (ry.mono e).dp py, sx, sy, k _ _ B H (Step.refl e) rfl (Rp.bl.mpr rfl)⟩⟩
theorem od_neD {x y : D} (hu : X.A.units + 64 < cLine) (px : x.plain = true) (py : y.plain = true) (sx : SeqAt.shaped x.py = true) (sy : SeqAt.shaped y.py = true) : OD X (compareOp .NotEq) x y (Eq (.bl (!PyData.eqv x.py y.py))) :=
  ⟨_, op_neD hu, fun v u B H Q e rx ry k => ⟨x.py, y.py, (rx.mono e).dp px, (ry.mono e).dp py, sx, sy, k _ _ B H (Step.refl e) rfl (Rp.bl.mpr rfl)⟩⟩
/-- lists of texts -/
theorem pys_strs : ∀ ws : List Str, D.pys (D.strs ws) = ws.map PyData.str
  | [] => by simp only [D.strs, List.map_nil, D.pys]
  | w :: ws => by
    have ih := pys_strs ws
    simp only [D.strs, List.map_cons, D.pys, D.py] at ih ⊢
    rw [ih]
theorem plains_strs : ∀ ws : List Str, D.plains (D.strs ws) = true
  | [] => by simp only [D.strs, List.map_nil, D.plains]
  | w :: ws => by
    have ih := plains_strs ws
    simp only [D.strs, List.map_cons, D.plains, D.plain] at ih ⊢
    rw [ih]; rfl
theorem eqvAll_strs : ∀ ws us : List Str, PyData.eqvAll (ws.map PyData.str) (us.map PyData.str) = decide (ws = us)
  | [], [] => by simp [PyData.eqvAll]
  | [], _ :: _ => by simp [PyData.eqvAll]
  | _ :: _, [] => by simp [PyData.eqvAll]
  | w :: ws, u :: us => by
    simp only [List.map_cons, PyData.eqvAll, PyData.eqv, eqvAll_strs ws us]
    by_cases h : w = u <;> simp [h]
theorem layAll_strs : ∀ ws : List Str, (∀ w ∈ ws, PyData.strOk w = true) → PyData.canLayAll0 (ws.map PyData.str) = true
  | [], _ => by simp [PyData.canLayAll0]
  | w :: ws, h => by
    have h1 := h w List.mem_cons_self
    have h2 := layAll_strs ws fun y hy => h y (List.mem_cons_of_mem _ hy)
    simp [PyData.canLayAll0, PyData.canLay0, h1, h2]
theorem depthAll_strs : ∀ ws : List Str, PyData.depthAll (ws.map PyData.str) ≤ 1
  | [] => by simp [PyData.depthAll]
  | w :: ws => by
    have h := depthAll_strs ws
    simp [PyData.depthAll, PyData.depth]
    omega
theorem shaped_strs {ws : List Str} (h : ∀ w ∈ ws, PyData.strOk w = true) : SeqAt.shaped (.list (ws.map PyData.str)) = true ∧ SeqAt.shaped (.tuple (ws.map PyData.str)) = true := by
  have h1 := layAll_strs ws h
  have h2 := depthAll_strs ws
  constructor
  all_goals
    unfold SeqAt.shaped
    rw [Bool.and_eq_true]
    refine ⟨by simpa only [PyData.canLay0] using h1, decide_eq_true ?_⟩
    simp only [PyData.depth]
    omega
theorem od_eqLs {ws us : List Str} (hu : X.A.units + 64 < cLine) (h1 : ∀ w ∈ ws, PyData.strOk w = true) (h2 : ∀ w ∈ us, PyData.strOk w = true) : OD X (compareOp .Eq) (.lst (D.strs ws)) (.lst (D.strs us)) (Eq (.bl (decide (ws = us)))) := by
  have e1 : (D.lst (D.strs ws)).py = .list (ws.map PyData.str) := by simp only [D.py, pys_strs]
  have e2 : (D.lst (D.strs us)).py = .list (us.map PyData.str) := by simp only [D.py, pys_strs]
  have h := od_eqD (X := X) (x := .lst (D.strs ws)) (y := .lst (D.strs us)) hu (by simp only [D.plain, plains_strs]) (by simp only [D.plain, plains_strs]) (by rw [e1]; exact (shaped_strs h1).1) (by rw [e2]; exact (shaped_strs h2).1)
  rwa [e1, e2, PyData.eqv, eqvAll_strs] at h
theorem od_neLs {ws us : List Str} (hu : X.A.units + 64 < cLine) (h1 : ∀ w ∈ ws, PyData.strOk w = true) (h2 : ∀ w ∈ us, PyData.strOk w = true) : OD X (compareOp .NotEq) (.lst (D.strs ws)) (.lst (D.strs us)) (Eq (.bl (!decide (ws = us)))) := by
  have e1 : (D.lst (D.strs ws)).py = .list (ws.map PyData.str) := by simp only [D.py, pys_strs]
  have e2 : (D.lst (D.strs us)).py = .list (us.map PyData.str) := by simp only [D.py, pys_strs]
  have h := od_neD (X := X) (x := .lst (D.strs ws)) (y := .lst (D.strs us)) hu (by simp only [D.plain, plains_strs]) (by simp only [D.plain, plains_strs]) (by rw [e1]; exact (shaped_strs h1).1) (by rw [e2]; exact (shaped_strs h2).1)
  rwa [e1, e2, PyData.eqv, eqvAll_strs] at h
theorem od_eqTs {ws us : List Str} (hu : X.A.units + 64 < cLine) (h1 : ∀ w ∈ ws, PyData.strOk w = true) (h2 : ∀ w ∈ us, PyData.strOk w = true) : OD X (compareOp .Eq) (.tup (D.strs ws)) (.tup (D.strs us)) (Eq (.bl (decide (ws = us)))) := by
  have e1 : (D.tup (D.strs ws)).py = .tuple (ws.map PyData.str) := by simp only [D.py, pys_strs]
  have e2 : (D.tup (D.strs us)).py = .tuple (us.map PyData.str) := by simp only [D.py, pys_strs]
  have h := od_eqD (X := X) (x := .tup (D.strs ws)) (y := .tup (D.strs us)) hu (by simp only [D.plain, plains_strs]) (by simp only [D.plain, plains_strs]) (by rw [e1]; exact (shaped_strs h1).2) (by rw [e2]; exact (shaped_strs h2).2)
  rwa [e1, e2, PyData.eqv, eqvAll_strs] at h

/-! ### in, by flat items -/
theorem flats_strs (ws : List Str) : (ws.map V.str).all flatV = true := by simp [flatV]
theorem inV_strs (x : Str) (ws : List Str) : inV (.str x) (ws.map V.str) = decide (x ∈ ws) := by
  unfold inV
  rw [List.any_map]
  induction ws with
  | nil => simp
  | cons w ws ih =>
    rw [List.any_cons, ih]
    simp only [Function.comp, List.mem_cons]
    by_cases h : w = x
    · subst h; simp [eqV]
    · have h' : ¬ x = w := fun z => h z.symm
      simp [eqV, h, h']
theorem RpL.toStrs {K : PySem.W.Frag} {H : Hp} {ws : List Str} {vs : List V} (h : RpL K H (D.strs ws) vs) : vs = ws.map V.str := RpL.strs.mp h
theorem od_inLs {x : Str} {ws : List Str} : OD X (compareOp .In) (.str x) (.lst (D.strs ws)) (Eq (.bl (decide (x ∈ ws)))) :=
  ⟨_, op_in_seq, fun v u B H Q e rx ry k => by
    obtain ⟨a, xs, rfl, h1, h2⟩ := Rp.lst.mp ry
    cases Rp.str.mp rx
    cases h2.toStrs
    refine ⟨a, _, rfl, .inl (SqL.of (e _ _ h1)), rfl, flats_strs ws, k _ (.bl (decide (x ∈ ws))) B H (Step.refl e) rfl ?_⟩
    rw [if_neg Bool.false_ne_true, inV_strs]
    exact Rp.bl.mpr rfl⟩
theorem od_niLs {x : Str} {ws : List Str} : OD X (compareOp .NotIn) (.str x) (.lst (D.strs ws)) (Eq (.bl (!decide (x ∈ ws)))) :=
  ⟨_, op_notIn_seq, fun v u B H Q e rx ry k => by
    obtain ⟨a, xs, rfl, h1, h2⟩ := Rp.lst.mp ry
    cases Rp.str.mp rx
    cases h2.toStrs
    refine ⟨a, _, rfl, .inl (SqL.of (e _ _ h1)), rfl, flats_strs ws, k _ (.bl (!decide (x ∈ ws))) B H (Step.refl e) rfl ?_⟩
    rw [if_pos rfl, inV_strs]
    exact Rp.bl.mpr rfl⟩
theorem od_inTs {x : Str} {ws : List Str} : OD X (compareOp .In) (.str x) (.tup (D.strs ws)) (Eq (.bl (decide (x ∈ ws)))) :=
  ⟨_, op_in_seq, fun v u B H Q e rx ry k => by
    obtain ⟨a, xs, rfl, h1, h2⟩ := Rp.tup.mp ry
    cases Rp.str.mp rx
    cases h2.toStrs
    refine ⟨a, _, rfl, .inr (e.t h1), rfl, flats_strs ws, k _ (.bl (decide (x ∈ ws))) B H (Step.refl e) rfl ?_⟩
    rw [if_neg Bool.false_ne_true, inV_strs]
    exact Rp.bl.mpr rfl⟩
theorem od_niTs {x : Str} {ws : List Str} : OD X (compareOp .NotIn) (.str x) (.tup (D.strs ws)) (Eq (.bl (!decide (x ∈ ws)))) :=
  ⟨_, op_notIn_seq, fun v u B H Q e rx ry k => by
    obtain ⟨a, xs, rfl, h1, h2⟩ := Rp.tup.mp ry
    cases Rp.str.mp rx
    cases h2.toStrs
    refine ⟨a, _, rfl, .inr (e.t h1), rfl, flats_strs ws, k _ (.bl (!decide (x ∈ ws))) B H (Step.refl e) rfl ?_⟩
    rw [if_pos rfl, inV_strs]
    exact Rp.bl.mpr rfl⟩

/-! ### lists and tuples: +, * -/
theorem odf_cat {xs ys : List D} (h : xs.length + ys.length ≤ sizeLine) : ODF X (binaryOp .Add) (.lst xs) (.lst ys) (Eq (xs ++ ys)) :=
  ⟨_, op_cat, fun v u B H Q e rx ry k => by
    obtain ⟨a, vs, rfl, h1, h2⟩ := Rp.lst.mp rx
    obtain ⟨b, us, rfl, h3, h4⟩ := Rp.lst.mp ry
    exact ⟨a, b, vs, us, rfl, rfl, e _ _ h1, e _ _ h3, by rw [← h2.length, ← h4.length]; exact h, fun p hp => k p (xs ++ ys) _ B _ (Step.own e hp) hp (e.back hp) upd_same rfl (h2.append h4)⟩⟩
theorem odf_rep {xs : List D} {n : Int} (h1 : -(2 ^ 63) ≤ n) (h2 : n < 2 ^ 63) (h : xs.length * n.toNat ≤ sizeLine) : ODF X (binaryOp .Mult) (.lst xs) (.int n) (Eq (List.replicate n.toNat xs).flatten) :=
  ⟨_, op_rep, fun v u B H Q e rx ry k => by
    obtain ⟨a, vs, rfl, g1, g2⟩ := Rp.lst.mp rx
    cases Rp.int.mp ry
    refine ⟨a, n, vs, rfl, rfl, e _ _ g1, h1, h2, by rw [← g2.length]; exact h, fun p hp => k p _ _ B _ (Step.own e hp) hp (e.back hp) upd_same rfl ?_⟩
    have aux : ∀ m : Nat, RpL X.K B (List.replicate m xs).flatten (List.replicate m vs).flatten := by
      intro m
      induction m with
      | zero => exact RpL.nil
      | succ m ih =>
        rw [List.replicate_succ, List.replicate_succ, List.flatten_cons, List.flatten_cons]
        exact RpL.append g2 ih
    exact aux _⟩
end
end Fx
set_option Elab.async false
set_option linter.all false
set_option maxRecDepth 100000
set_option maxHeartbeats 2000000
/-! Fx, part 4: tests, subscripts, slices, built-ins by data. -/
namespace Fx
open PySem L2

section
variable {X : Cx} {e a b c : Expr} {es : List Expr} {σ : L2.St} {B B' : Hp} {P P' Pa Pb : D → Prop} {PL : List D → Prop} {p pos apos : Pos} {rest : List Expr} {x : Str} {id : String}

/-! ### tests -/
theorem et_val {Pt : Bool → Prop} (h : EN X e σ B (fun d => ∃ k, d = .bl k ∧ Pt k)) (he : ∀ whole, isTrue e X.env whole = (do let v ← whole; standAt e.pos; holding [v] (truthy v)) := by intro _; rfl) : ET X e σ B Pt := fun B1 H e1 e2 Q k =>
  RT.of (pt_val cE he) (h B1 H e1 e2 _ fun v d B' H' s ⟨z, q, pz⟩ r => ⟨z, by subst q; exact Rp.bl.mp r, k z B' H' s pz⟩)
theorem et_valE {t : Bool} (h : EN X e σ B (Eq (.bl t))) (he : ∀ whole, isTrue e X.env whole = (do let v ← whole; standAt e.pos; holding [v] (truthy v)) := by intro _; rfl) : ET X e σ B (Eq t) :=
  et_val (h.imp fun _ q => ⟨t, q.symm, rfl⟩) he
/-- a comparison as a test -/
theorem et_cmp {op : CmpOp} {Pt : Bool → Prop} (ha : EN X a σ B Pa) (hb : EN X b σ B Pb) (o : ∀ x y, Pa x → Pb y → OD X (compareOp op) x y (fun d => ∃ k, d = .bl k ∧ Pt k)) (hm : behindInMarks op b = false := by first | exact nomark _ | rfl) : ET X (.Compare a [op] [b] pos) σ B Pt := fun B1 H e1 e2 Q k => by
  let R : R2 := fun v u H Q => ∃ x y B, Pa x ∧ Pb y ∧ Ex B H ∧ Rp X.K B x v ∧ Rp X.K B y u ∧ ∀ z d B' H', Step B H B' H' → (∃ k, d = D.bl k ∧ Pt k) → Rp X.K B' d z → Q z H'
  have hR : OpR X (compareOp op) R := fun pins s σ H v u vv uu Q I hx hy ⟨x, y, B, px, py, e, rx, ry, k⟩ => run_op (o x y px py) I e rx ry hx hy k
  exact RT.of (pt_cmpR hR cE cE hm) (ha B1 H e1 e2 _ fun v x B2 H2 s p r => hb B2 H2 (e1.trans s.b) s.bh _ fun u y B3 H3 s' p' r' =>
    ⟨x, y, B3, p, p', s'.bh, r.mono s'.b, r', fun z d B' H' s'' ⟨t, q, pt⟩ rd => ⟨t, by subst q; exact Rp.bl.mp rd, k t B' H' ((s.trans s').trans s'') pt⟩⟩)
theorem ed_tcmp {op : CmpOp} {x y : D} {t : Bool} (ha : EN X a σ B (Eq x)) (hb : EN X b σ B (Eq y)) (o : OD X (compareOp op) x y (Eq (.bl t))) (hm : behindInMarks op b = false := by first | exact nomark _ | rfl) : ET X (.Compare a [op] [b] pos) σ B (Eq t) :=
  et_cmp ha hb (fun _ _ q1 q2 => by
    subst q1; subst q2
    obtain ⟨r, h1, h2⟩ := o
    exact ⟨r, h1, fun v u B H Q e rx ry k => h2 v u B H Q e rx ry fun z d B' H' s q rz => k z d B' H' s ⟨t, q.symm, rfl⟩ rz⟩) hm
theorem et_not {Pt : Bool → Prop} (h : ET X a σ B (fun k => Pt (!k))) : ET X (.UnaryOp .Not a pos) σ B Pt := fun B1 H e1 e2 Q k => RT.of (pt_not cT) (h B1 H e1 e2 _ fun z B' H' s q => k (!z) B' H' s q)
theorem ed_not {t : Bool} (h : ET X a σ B (Eq t)) : ET X (.UnaryOp .Not a pos) σ B (Eq (!t)) := et_not (h.imp fun _ q => by rw [q])
/-- a test of and, or: the last one alone; one more ahead -/
structure EW (X : Cx) (e : Expr) (σ : L2.St) (B : Hp) (P : Bool → Prop) : Prop where
  run : ∀ B1 H, Ex B B1 → Ex B1 H → ∀ Q : Bool → Hp → Prop, (∀ b B' H', Step B1 H B' H' → P b → Q b H') → ∀ whole pins s, Inv X pins σ H s → wpAny (model X.prog X.w) X.A (isTrue e X.env whole) (TP X pins σ Q) X.xe s
theorem EW.et {Pt : Bool → Prop} (h : EW X e σ B Pt) : ET X e σ B Pt := fun B1 H e1 e2 Q k pins s I => h.run B1 H e1 e2 Q k _ pins s I
def RW (X : Cx) (e : Expr) (σ : L2.St) (H : Hp) (Q : Bool → Hp → Prop) : Prop := ∀ whole pins s, Inv X pins σ H s → wpAny (model X.prog X.w) X.A (isTrue e X.env whole) (TP X pins σ Q) X.xe s
theorem cW : PW X e (RW X e) := ⟨fun whole pins s _ _ _ I h => h whole pins s I⟩
theorem ew_and1 {Pt : Bool → Prop} (h : ET X a σ B Pt) : EW X (.BoolOp .And [a] pos) σ B Pt := ⟨fun B1 H e1 e2 Q k whole pins s I => (pw_and1 cT).run whole pins s σ H Q I (h B1 H e1 e2 Q k)⟩
theorem ew_or1 {Pt : Bool → Prop} (h : ET X a σ B Pt) : EW X (.BoolOp .Or [a] pos) σ B Pt := ⟨fun B1 H e1 e2 Q k whole pins s I => (pw_or1 cT).run whole pins s σ H Q I (h B1 H e1 e2 Q k)⟩
theorem ew_and {Pt : Bool → Prop} {t : Bool} (h : ET X a σ B (Eq t)) (h1 : t = true → EW X (.BoolOp .And (b :: rest) pos) σ B Pt) (h0 : t = false → Pt false) : EW X (.BoolOp .And (a :: b :: rest) pos) σ B Pt := ⟨fun B1 H e1 e2 Q k whole pins s I =>
  (pw_and cT cW).run whole pins s σ H Q I (h B1 H e1 e2 _ fun z B' H' st q => by
    subst q
    cases t with
    | true => exact iteT fun whole pins s I => (h1 rfl).run B' H' (e1.trans st.b) st.bh Q (fun b B'' H'' s'' pb => k b B'' H'' (st.trans s'') pb) whole pins s I
    | false => exact iteF (k false B' H' st (h0 rfl)))⟩
theorem ew_or {Pt : Bool → Prop} {t : Bool} (h : ET X a σ B (Eq t)) (h1 : t = false → EW X (.BoolOp .Or (b :: rest) pos) σ B Pt) (h0 : t = true → Pt true) : EW X (.BoolOp .Or (a :: b :: rest) pos) σ B Pt := ⟨fun B1 H e1 e2 Q k whole pins s I =>
  (pw_or cT cW).run whole pins s σ H Q I (h B1 H e1 e2 _ fun z B' H' st q => by
    subst q
    cases t with
    | false => exact iteF fun whole pins s I => (h1 rfl).run B' H' (e1.trans st.b) st.bh Q (fun b B'' H'' s'' pb => k b B'' H'' (st.trans s'') pb) whole pins s I
    | true => exact iteT (k true B' H' st (h0 rfl)))⟩
theorem ed_and2 {t u : Bool} (h : ET X a σ B (Eq t)) (h1 : t = true → ET X b σ B (Eq u)) : ET X (.BoolOp .And [a, b] pos) σ B (Eq (t && u)) :=
  (ew_and h (fun q => ew_and1 ((h1 q).imp fun _ z => by rw [q, ← z]; rfl)) fun q => by rw [q]; rfl).et
theorem ed_or2 {t u : Bool} (h : ET X a σ B (Eq t)) (h1 : t = false → ET X b σ B (Eq u)) : ET X (.BoolOp .Or [a, b] pos) σ B (Eq (t || u)) :=
  (ew_or h (fun q => ew_or1 ((h1 q).imp fun _ z => by rw [q, ← z]; rfl)) fun q => by rw [q]; rfl).et
theorem ed_or3 {t u w : Bool} (h : ET X a σ B (Eq t)) (h1 : t = false → ET X b σ B (Eq u)) (h2 : t = false → u = false → ET X c σ B (Eq w)) : ET X (.BoolOp .Or [a, b, c] pos) σ B (Eq (t || (u || w))) :=
  (ew_or h (fun q => ew_or (h1 q) (fun q2 => ew_or1 ((h2 q q2).imp fun _ z => by rw [q, q2, ← z]; rfl)) (fun q2 => by rw [q, q2]; rfl)) fun q => by rw [q]; rfl).et
/-- and, or as values (bools) -/
theorem en_andV {t u : Bool} (ha : EN X a σ B (Eq (.bl t))) (hb : t = true → EN X b σ B (Eq (.bl u))) : EN X (.BoolOp .And [a, b] pos) σ B (Eq (.bl (t && u))) := fun B1 H e1 e2 Q k =>
  RE.of (pe_and cE (pe_one cE)) (ha B1 H e1 e2 _ fun v d B' H' s q r => ⟨t, by subst q; exact Rp.bl.mp r, by
    cases t with
    | true => exact iteT (hb rfl B' H' (e1.trans s.b) s.bh _ fun v d B'' H'' s'' q r => k v d B'' H'' (s.trans s'') q r)
    | false => exact iteF (k _ _ B' H' s rfl (Rp.bl.mpr rfl))⟩)
theorem en_orV {t u : Bool} (ha : EN X a σ B (Eq (.bl t))) (hb : t = false → EN X b σ B (Eq (.bl u))) : EN X (.BoolOp .Or [a, b] pos) σ B (Eq (.bl (t || u))) := fun B1 H e1 e2 Q k =>
  RE.of (pe_or cE (pe_one cE)) (ha B1 H e1 e2 _ fun v d B' H' s q r => ⟨t, by subst q; exact Rp.bl.mp r, by
    cases t with
    | false => exact iteF (hb rfl B' H' (e1.trans s.b) s.bh _ fun v d B'' H'' s'' q r => k v d B'' H'' (s.trans s'') q r)
    | true => exact iteT (k _ _ B' H' s rfl (Rp.bl.mpr rfl))⟩)
theorem en_notV {t : Bool} (ha : EN X a σ B (Eq (.bl t))) : EN X (.UnaryOp .Not a pos) σ B (Eq (.bl (!t))) := fun B1 H e1 e2 Q k =>
  RE.of (pe_not cE) (ha B1 H e1 e2 _ fun v d B' H' s q r => ⟨t, by subst q; exact Rp.bl.mp r, k _ _ B' H' s rfl (Rp.bl.mpr rfl)⟩)
theorem en_if {t : Bool} (h : ET X c σ B (Eq t)) (ha : t = true → EN X a σ B P) (hb : t = false → EN X b σ B P) : EN X (.IfExp c a b pos) σ B P := fun B1 H e1 e2 Q k =>
  RE.of (pe_ifExp cT cE cE) (h B1 H e1 e2 _ fun z B' H' s q => by
    subst q
    cases t with
    | true => exact iteT (ha rfl B' H' (e1.trans s.b) s.bh _ fun v d B'' H'' s'' q r => k v d B'' H'' (s.trans s'') q r)
    | false => exact iteF (hb rfl B' H' (e1.trans s.b) s.bh _ fun v d B'' H'' s'' q r => k v d B'' H'' (s.trans s'') q r))
/-- a < b <= c and its like, on ints -/
theorem et_chainI {op op' : CmpOp} {f g : Int → Int → Bool} {i j k : Int} (ho : OpR X (compareOp op) (rI0 fun i j => .bl (f i j))) (ho' : OpR X (compareOp op') (rI0 fun i j => .bl (g i j)))
    (ha : EN X a σ B (Eq (.int i))) (hb : EN X b σ B (Eq (.int j))) (hc : EN X c σ B (Eq (.int k))) (hm : lastMarks [op, op'] [b, c] = false := by with_unfolding_all rfl) : ET X (.Compare a [op, op'] [b, c] pos) σ B (Eq (f i j && g j k)) := fun B1 H e1 e2 Q kk =>
  RT.of (pt_chain ho ho' cE cE cE hm) (ha B1 H e1 e2 _ fun v x B2 H2 s p r => hb B2 H2 (e1.trans s.b) s.bh _ fun u y B3 H3 s' p' r' => by
    subst p; subst p'
    refine ⟨i, j, Rp.int.mp r, Rp.int.mp r', f i j, rfl, ?_⟩
    cases hf : f i j with
    | true =>
      refine iteT (hc B3 H3 ((e1.trans s.b).trans s'.b) s'.bh _ fun w z B4 H4 s'' p'' r'' => ?_)
      subst p''
      exact ⟨j, k, Rp.int.mp r', Rp.int.mp r'', g j k, rfl, kk _ B4 H4 ((s.trans s').trans s'') (by rw [hf]; rfl)⟩
    | false => exact iteF ⟨false, rfl, kk _ B3 H3 (s.trans s') (by rw [hf]; rfl)⟩)

/-! ### subscripts -/
/-- an item by data -/
def IxD (X : Cx) (x y : D) (P : D → Prop) : Prop :=
  ∃ r, IxR X r ∧ ∀ v u B H (Q : VK), Ex B H → Rp X.K B x v → Rp X.K B y u → (∀ z d, P d → Rp X.K B d z → Q z H) → r v u H Q
theorem en_ix (ha : EN X a σ B Pa) (hb : EN X b σ B Pb) (o : ∀ x y, Pa x → Pb y → IxD X x y P) (hs : PlainIx b := by exact fun _ _ => rfl) : EN X (.Subscript a b pos) σ B P := fun B1 H e1 e2 Q k => by
  let R : R2 := fun v u H Q => ∃ x y B, Pa x ∧ Pb y ∧ Ex B H ∧ Rp X.K B x v ∧ Rp X.K B y u ∧ ∀ z d, P d → Rp X.K B d z → Q z H
  have hR : IxR X R := fun va sl pins s σ H v u vv uu Q I hx hy ⟨x, y, B, px, py, e, rx, ry, k⟩ hs => by
    obtain ⟨r, hr, q⟩ := o x y px py
    exact hr va sl pins s σ H v u vv uu Q I hx hy (q v u B H Q e rx ry k) hs
  exact RE.of (pe_ix hR cE cE hs) (ha B1 H e1 e2 _ fun v x B2 H2 s p r => hb B2 H2 (e1.trans s.b) s.bh _ fun u y B3 H3 s' p' r' =>
    ⟨x, y, B3, p, p', s'.bh, r.mono s'.b, r', fun z d pd rd => k z d B3 H3 (s.trans s') pd rd⟩)
theorem ed_ix {x y : D} (ha : EN X a σ B (Eq x)) (hb : EN X b σ B (Eq y)) (o : IxD X x y P) (hs : PlainIx b := by exact fun _ _ => rfl) : EN X (.Subscript a b pos) σ B P := en_ix ha hb (fun _ _ p q => p ▸ q ▸ o) hs
theorem RpL.atI {K : PySem.W.Frag} {H : Hp} {ds : List D} {vs : List V} {i : Int} {d : D} (r : RpL K H ds vs) (h : L2.atI ds i = some d) : ∃ v, L2.atI vs i = some v ∧ Rp K H d v := by
  unfold L2.atI at h ⊢
  rw [← r.length]
  cases q : ixN ds.length i with
  | none => rw [q] at h; cases h
  | some j =>
    rw [q] at h
    exact r.at h
theorem ix_lst {ds : List D} {i : Int} {d : D} (h : L2.atI ds i = some d) : IxD X (.lst ds) (.int i) (Eq d) :=
  ⟨_, ix_list, fun v u B H Q e rx ry k => by
    obtain ⟨a, vs, rfl, h1, h2⟩ := Rp.lst.mp rx
    cases Rp.int.mp ry
    obtain ⟨z, hz, rz⟩ := h2.atI h
    exact ⟨a, vs, i, z, rfl, rfl, SqL.of (e _ _ h1), hz, k z d rfl rz⟩⟩
theorem ix_tup {ds : List D} {i : Int} {d : D} (h : L2.atI ds i = some d) : IxD X (.tup ds) (.int i) (Eq d) :=
  ⟨_, L2.ix_tup, fun v u B H Q e rx ry k => by
    obtain ⟨a, vs, rfl, h1, h2⟩ := Rp.tup.mp rx
    cases Rp.int.mp ry
    obtain ⟨z, hz, rz⟩ := h2.atI h
    exact ⟨a, vs, i, z, rfl, rfl, e.t h1, hz, k z d rfl rz⟩⟩
theorem ix_text {z : Str} {i : Int} {c : Nat} (hz : z.length ≤ sizeLine) (h : L2.atI z.cps.toList i = some c) : IxD X (.str z) (.int i) (Eq (.str ⟨#[c]⟩)) :=
  ⟨_, ix_str, fun v u B H Q e rx ry k => ⟨z, i, c, Rp.str.mp rx, Rp.int.mp ry, hz, h, k _ _ rfl (Rp.str.mpr rfl)⟩⟩
theorem ix_scr {ns : List Int} {i n : Int} (h : L2.atI ns i = some n) : IxD X (.scr ns) (.int i) (Eq (.int n)) :=
  ⟨_, ix_list, fun v u B H Q e rx ry k => by
    simp only [Rp] at rx
    obtain ⟨a, rfl, h1⟩ := rx
    cases Rp.int.mp ry
    refine ⟨a, _, i, .int n, rfl, rfl, e.l h1, ?_, k _ _ rfl (Rp.int.mpr rfl)⟩
    unfold L2.atI at h ⊢
    rw [List.length_map]
    cases q : ixN ns.length i with
    | none => rw [q] at h; cases h
    | some j =>
      rw [q] at h
      have h' : ns[j]? = some n := h
      show (ns.map V.int)[j]? = some (V.int n)
      rw [List.getElem?_map, h']; rfl⟩

/-! ### slices -/
def EO (X : Cx) (e : Option Expr) (σ : L2.St) (B : Hp) (o : Option Int) : Prop :=
  ∀ B1 H, Ex B B1 → Ex B1 H → ∀ Q : Option Int → Hp → Prop, (∀ B' H', Step B1 H B' H' → Q o H') → ∃ t, PO X e t ∧ t σ H Q
theorem eo_none : EO X none σ B none := fun B1 H e1 e2 Q k => ⟨_, po_none, k B1 H (Step.refl e2)⟩
theorem eo_some {i : Int} (h : EN X e σ B (Eq (.int i))) : EO X (some e) σ B (some i) := fun B1 H e1 e2 Q k => ⟨_, po_some cE, h B1 H e1 e2 _ fun v d B' H' s q r => ⟨i, by subst q; exact Rp.int.mp r, k B' H' s⟩⟩
/-- a part's runs -/
def RO (X : Cx) (e : Option Expr) (σ : L2.St) (H : Hp) (Q : Option Int → Hp → Prop) : Prop := ∃ t, PO X e t ∧ t σ H Q
theorem cO {e : Option Expr} : PO X e (RO X e) := ⟨fun pins s σ H Q I ⟨t, h, q⟩ => h.run pins s σ H Q I q⟩
/-- the items of ds[lo:hi] -/
def cutD {α : Type} (ds : List α) (lo hi : Option Int) : List α := (ds.drop (HT.sIx ds.length 0 lo)).take (HT.sIx ds.length ds.length hi - HT.sIx ds.length 0 lo)
theorem RpL.cut {K : PySem.W.Frag} {H : Hp} {ds : List D} {vs : List V} {lo hi : Option Int} (r : RpL K H ds vs) : RpL K H (cutD ds lo hi) (cutV vs lo hi) := by
  unfold cutD cutV
  rw [r.length]
  exact RpL.take _ (RpL.drop _ r)
theorem cutD_map {α β : Type} (f : α → β) (ds : List α) (lo hi : Option Int) : cutD (ds.map f) lo hi = (cutD ds lo hi).map f := by
  unfold cutD
  rw [List.length_map, List.map_take, List.map_drop]
theorem cutD_to {α : Type} (ds : List α) (n : Nat) : cutD ds none (some (n : Int)) = ds.take n := by
  unfold cutD
  rw [HT.sIx_none, HT.sIx_nat, List.drop_zero, Nat.sub_zero]
  by_cases h : n ≤ ds.length
  · rw [Nat.min_eq_left h]
  · rw [Nat.min_eq_right (by omega), List.take_of_length_le (Nat.le_refl _), List.take_of_length_le (by omega)]
theorem cutD_from {α : Type} (ds : List α) (n : Nat) : cutD ds (some (n : Int)) none = ds.drop n := by
  unfold cutD
  rw [HT.sIx_none, HT.sIx_nat]
  by_cases h : n ≤ ds.length
  · rw [Nat.min_eq_left h, List.take_of_length_le (by rw [List.length_drop]; exact Nat.le_refl _)]
  · rw [Nat.min_eq_right (by omega), List.drop_of_length_le (Nat.le_refl _), List.drop_of_length_le (by omega), List.take_nil]
variable {lo hi : Option Expr} {l u : Option Int} {p2 : Pos}
theorem ef_slL {ds : List D} (h : EN X e σ B (Eq (.lst ds))) (hl : EO X lo σ B l) (hu : EO X hi σ B u) : EF X (.Subscript e (.Slice lo hi none p2) pos) σ B (Eq (cutD ds l u)) := fun B1 H e1 e2 Q k =>
  RE.of (pe_slice sl_list cE cO cO) (h B1 H e1 e2 _ fun v d B2 H2 s q r => hl B2 H2 (e1.trans s.b) s.bh _ fun B3 H3 s' => hu B3 H3 ((e1.trans s.b).trans s'.b) s'.bh _ fun B4 H4 s'' => by
    subst q
    obtain ⟨a, vs, rfl, h1, h2⟩ := Rp.lst.mp r
    have st := (s.trans s').trans s''
    exact ⟨a, vs, rfl, SqL.of (s''.h _ _ (s'.h _ _ (s.bh _ _ h1))), fun p hp => k p _ _ B4 _ (st.trans (Step.own s''.bh hp)) (st.h.back hp) (s''.bh.back hp) upd_same rfl ((h2.mono (s'.b.trans s''.b)).cut)⟩)
theorem en_slT {ds : List D} (h : EN X e σ B (Eq (.tup ds))) (hl : EO X lo σ B l) (hu : EO X hi σ B u) : EN X (.Subscript e (.Slice lo hi none p2) pos) σ B (Eq (.tup (cutD ds l u))) := fun B1 H e1 e2 Q k =>
  RE.of (pe_slice sl_tupA cE cO cO) (h B1 H e1 e2 _ fun v d B2 H2 s q r => hl B2 H2 (e1.trans s.b) s.bh _ fun B3 H3 s' => hu B3 H3 ((e1.trans s.b).trans s'.b) s'.bh _ fun B4 H4 s'' => by
    subst q
    obtain ⟨a, vs, rfl, h1, h2⟩ := Rp.tup.mp r
    have st := (s.trans s').trans s''
    have ht : SqT X.K H4 a vs := s''.h.t (s'.h.t (s.bh.t h1))
    refine ⟨a, vs, rfl, ht, fun w => k _ _ B4 H4 st rfl (Rp.tup.mpr ⟨a, vs, rfl, (s'.b.trans s''.b).t h1, ?_⟩), fun w p hp => k _ _ _ _ (st.trans (Step.alloc s''.bh hp)) rfl (Rp.tup.mpr ⟨p, _, rfl, SqT.of upd_same, ?_⟩)⟩
    · have e0 : cutD ds l u = ds := by
        unfold cutD
        rw [h2.length, w.1, w.2, List.drop_zero, Nat.sub_zero, ← h2.length, List.take_of_length_le (Nat.le_refl _)]
      rw [e0]; exact h2.mono (s'.b.trans s''.b)
    · exact ((h2.mono (s'.b.trans s''.b)).cut).mono (Ex.new (s''.bh.back hp)))
theorem en_slS {z : Str} (h : EN X e σ B (Eq (.str z))) (hl : EO X lo σ B l) (hu : EO X hi σ B u) (hz : z.length ≤ sizeLine) : EN X (.Subscript e (.Slice lo hi none p2) pos) σ B (Eq (.str (cutS z l u))) := fun B1 H e1 e2 Q k =>
  RE.of (pe_slice sl_str cE cO cO) (h B1 H e1 e2 _ fun v d B2 H2 s q r => hl B2 H2 (e1.trans s.b) s.bh _ fun B3 H3 s' => hu B3 H3 ((e1.trans s.b).trans s'.b) s'.bh _ fun B4 H4 s'' => by
    subst q
    exact ⟨z, Rp.str.mp r, hz, k _ _ B4 H4 ((s.trans s').trans s'') rfl (Rp.str.mpr rfl)⟩)
theorem ef_rev {ds : List D} {k0 : Nat} {p1 p3 p4 : Pos} (h : EN X e σ B (Eq (.lst ds))) : EF X (.Subscript e (.Slice none none (some (.UnaryOp .USub (.Constant (.int 1) k0 p1) p3)) p4) pos) σ B (Eq ds.reverse) := fun B1 H e1 e2 Q k =>
  RE.of (pe_revL cE) (h B1 H e1 e2 _ fun v d B2 H2 s q r => by
    subst q
    obtain ⟨a, vs, rfl, h1, h2⟩ := Rp.lst.mp r
    exact ⟨a, vs, rfl, SqL.of (s.bh _ _ h1), fun p hp => k p _ _ B2 _ (s.trans (Step.own s.bh hp)) (s.h.back hp) (s.bh.back hp) upd_same rfl h2.reverse⟩)
end
end Fx
set_option Elab.async false
set_option linter.all false
set_option maxRecDepth 100000
set_option maxHeartbeats 2000000
/-! Fx, part 5: walks, comprehensions, blocks, loops. -/
namespace Fx
open PySem L2

section
variable {X : Cx} {e elt iter tg : Expr} {es ifs : List Expr} {σ : L2.St} {B B' : Hp} {P P' Pa Pb : D → Prop} {PL : List D → Prop} {p pos apos px : Pos} {rest : List Stmt} {x y : Str} {id : String}

/-! ### what is walked -/
/-- the iterator J gives the data ds, one after another, over any heap that has B -/
def Wk (K : PySem.W.Frag) (J : It) (B : Hp) (ds : List D) : Prop :=
  ∃ G Y, Walk J ds.length G Y ∧ (∀ H, Ex B H → G H) ∧ ∀ i H v H' B1, i < ds.length → Ex B B1 → Ex B1 H → Y i H v H' → ∃ B2 d, Step B1 H B2 H' ∧ ds[i]? = some d ∧ Rp K B2 d v
def RI (X : Cx) (tg iter : Expr) (σ : L2.St) (H : Hp) (R : It → Hp → Prop) : Prop := ∀ pins s, Inv X pins σ H s →
  wpAny (model X.prog X.w) X.A (eval iter X.env) (fun v s1 => wpAny (model X.prog X.w) X.A (pyIter v) (PIE X pins σ tg R) X.xe s1) X.xe s
theorem cI : PI X tg iter (RI X tg iter) := ⟨fun pins s _ _ _ I h => h pins s I⟩
theorem RI.of {w : TI} (h : PI X tg iter w) {H : Hp} {R : It → Hp → Prop} (q : w σ H R) : RI X tg iter σ H R := fun pins s I => h.run pins s σ H R I q
def WI (X : Cx) (tg iter : Expr) (σ : L2.St) (B : Hp) (P : List D → Prop) : Prop :=
  ∀ B1 H, Ex B B1 → Ex B1 H → ∀ R : It → Hp → Prop, (∀ J ds B' H', Step B1 H B' H' → P ds → Wk X.K J B' ds → R J H') → RI X tg iter σ H R
theorem WI.mono (h : WI X tg iter σ B PL) (q : Ex B B') : WI X tg iter σ B' PL := fun B1 H e1 e2 => h B1 H (q.trans e1) e2
theorem wk_list {K : PySem.W.Frag} {a : Addr} {ds : List D} {vs : List V} (h : B a = some (.lst vs)) (r : RpL K B ds vs) : Wk K (Itl K a) B ds :=
  ⟨_, _, by rw [r.length]; exact walk_list (xs := vs), fun H q => SqL.of (q _ _ h), fun i H v H' B1 hi e1 e2 q => by
    obtain ⟨rfl, hv⟩ := q
    obtain ⟨d, hd, rd⟩ := r.get hv
    exact ⟨B1, d, Step.refl e2, hd, rd.mono e1⟩⟩
theorem wk_tup {K : PySem.W.Frag} {a : Addr} {ds : List D} {vs : List V} (h : SqT K B a vs) (r : RpL K B ds vs) : Wk K (Itt K a) B ds :=
  ⟨_, _, by rw [r.length]; exact walk_tup (xs := vs), fun H q => q.t h, fun i H v H' B1 hi e1 e2 q => by
    obtain ⟨rfl, hv⟩ := q
    obtain ⟨d, hd, rd⟩ := r.get hv
    exact ⟨B1, d, Step.refl e2, hd, rd.mono e1⟩⟩
theorem wi_lst {Pl : List D → Prop} (h : EN X iter σ B (fun d => ∃ ds, d = .lst ds ∧ Pl ds)) : WI X tg iter σ B Pl := fun B1 H e1 e2 R k =>
  RI.of (pi_list cE) (h B1 H e1 e2 _ fun v d B' H' s ⟨ds, q, pl⟩ r => by
    subst q
    obtain ⟨a, vs, rfl, h1, h2⟩ := Rp.lst.mp r
    exact ⟨a, rfl, ⟨vs, SqL.of (s.bh _ _ h1)⟩, k _ ds B' H' s pl (wk_list h1 h2)⟩)
theorem wi_lstE {ds : List D} (h : EN X iter σ B (Eq (.lst ds))) : WI X tg iter σ B (Eq ds) := wi_lst (h.imp fun _ q => ⟨ds, q.symm, rfl⟩)
theorem wi_tupE {ds : List D} (h : EN X iter σ B (Eq (.tup ds))) : WI X tg iter σ B (Eq ds) := fun B1 H e1 e2 R k =>
  RI.of (pi_tup cE) (h B1 H e1 e2 _ fun v d B' H' s q r => by
    subst q
    obtain ⟨a, vs, rfl, h1, h2⟩ := Rp.tup.mp r
    exact ⟨a, rfl, ⟨vs, s.bh.t h1⟩, k _ ds B' H' s rfl (wk_tup h1 h2)⟩)
/-- 0, 1, .. below n -/
def upTo (n : Nat) : List D := (List.range n).map fun (i : Nat) => D.int (i : Int)
theorem upTo_length (n : Nat) : (upTo n).length = n := by unfold upTo; rw [List.length_map, List.length_range]
theorem upTo_at {n i : Nat} (h : i < n) : (upTo n)[i]? = some (.int (i : Int)) := by
  unfold upTo
  rw [List.getElem?_map, List.getElem?_range h]; rfl
theorem wi_range {a : Expr} {Pn : Int → Prop} (h : EN X a σ B (fun d => ∃ n, d = .int n ∧ Pn n)) (hb : ∀ n, Pn n → -(2 ^ 62) ≤ n ∧ n < 2 ^ 62) (hm : X.mg "range" = none) (hg : Gl X "range" := by rfl)
    (hs : starEach [a] X.env = [(false, eval a X.env)] := by rfl) : WI X tg (.Call (.Name "range" px) [a] [] pos) σ B (fun ds => ∃ n, Pn n ∧ ds = upTo n.toNat) := fun B1 H e1 e2 R k =>
  RI.of (pi_range1 hg hm (pa_cons cE pa_nil hs) hs) (h B1 H e1 e2 _ fun v d B' H' s ⟨n, q, pn⟩ r => by
    subst q
    have hb' := hb n pn
    refine ⟨n, by rw [Rp.int.mp r], hb'.1, hb'.2, k _ (upTo n.toNat) B' H' s ⟨n, pn, rfl⟩ ⟨_, _, by rw [upTo_length]; exact walk_range, fun _ _ => trivial, fun i H v H' B1 hi e1 e2 q => ?_⟩⟩
    obtain ⟨rfl, rfl⟩ := q
    rw [upTo_length] at hi
    exact ⟨B1, _, Step.refl e2, upTo_at hi, by rw [Rp.int]; simp⟩)
theorem wi_rangeE {a : Expr} {n : Int} (h : EN X a σ B (Eq (.int n))) (hb : -(2 ^ 62) ≤ n ∧ n < 2 ^ 62) (hm : X.mg "range" = none) (hg : Gl X "range" := by rfl)
    (hs : starEach [a] X.env = [(false, eval a X.env)] := by rfl) : WI X tg (.Call (.Name "range" px) [a] [] pos) σ B (Eq (upTo n.toNat)) := fun B1 H e1 e2 R k =>
  wi_range (Pn := Eq n) (h.imp fun _ q => ⟨n, q.symm, rfl⟩) (fun _ q => q ▸ hb) hm hg hs B1 H e1 e2 R fun J ds B' H' s ⟨m, q, z⟩ w => k J ds B' H' s (by rw [z, q]) w
/-- a text, sign by sign -/
def signs (z : Str) : List D := z.cps.toList.map fun c => D.str ⟨#[c]⟩
theorem wi_text {z : Str} (h : EN X iter σ B (Eq (.str z))) : WI X tg iter σ B (Eq (signs z)) := fun B1 H e1 e2 R k =>
  RI.of (pi_str cE) (h B1 H e1 e2 _ fun v d B' H' s q r => by
    subst q
    have hl : (signs z).length = z.cps.size := by unfold signs; rw [List.length_map, Array.length_toList]
    refine ⟨z, Rp.str.mp r, k _ (signs z) B' H' s rfl ⟨_, _, by rw [hl]; exact walk_str, fun _ _ => trivial, fun i H v H' B1 hi e1 e2 q => ?_⟩⟩
    obtain ⟨rfl, c, hc, rfl⟩ := q
    refine ⟨B1, _, Step.refl e2, ?_, Rp.str.mpr rfl⟩
    unfold signs
    rw [List.getElem?_map, Array.getElem?_toList, hc]; rfl)
/-- pairs of a list's places and items -/
def enumD (ds : List D) : List D := ds.zipIdx.map fun q => D.tup [.int (q.2 : Nat), q.1]
theorem enumD_length (ds : List D) : (enumD ds).length = ds.length := by unfold enumD; rw [List.length_map, List.length_zipIdx]
theorem enumD_at {ds : List D} {i : Nat} {d : D} (h : ds[i]? = some d) : (enumD ds)[i]? = some (.tup [.int (i : Nat), d]) := by
  unfold enumD
  rw [List.getElem?_map, List.getElem?_zipIdx, h]
  simp
theorem wi_enum {ds : List D} {elts : List Expr} {kk : Nat} {tpos : Pos} (h : EN X e σ B (Eq (.lst ds))) (hm : X.mg "enumerate" = none) (hg : Gl X "enumerate" := by rfl) (hs : starEach [e] X.env = [(false, eval e X.env)] := by rfl) :
    WI X (.Tuple elts kk tpos) (.Call (.Name "enumerate" px) [e] [] pos) σ B (Eq (enumD ds)) := fun B1 H e1 e2 R k =>
  RI.of (pi_enum hg hm (pa_cons cE pa_nil hs) hs) (h B1 H e1 e2 _ fun v d B' H' s q r => by
    subst q
    obtain ⟨a, vs, rfl, h1, h2⟩ := Rp.lst.mp r
    refine ⟨a, vs, rfl, SqL.of (s.bh _ _ h1), k _ (enumD ds) B' H' s rfl ⟨_, _, by rw [enumD_length, h2.length]; exact walk_enum (xs := vs), fun H q => SqL.of (q _ _ h1), fun i H v H' B1 hi e1 e2 q => ?_⟩⟩
    obtain ⟨T, x, y, rfl, hT, rfl, hx, hy⟩ := q
    obtain ⟨d, hd, rd⟩ := h2.get hy
    cases hx
    exact ⟨_, _, Step.alloc e2 hT, enumD_at hd, Rp.tup.mpr ⟨T, _, rfl, SqT.of upd_same, RpL.cons (Rp.int.mpr rfl) (RpL.cons (rd.mono (e1.trans (Ex.new (e2.back hT)))) RpL.nil)⟩⟩)
def zipD (ds fs : List D) : List D := (ds.zip fs).map fun q => D.tup [q.1, q.2]
theorem zipD_length (ds fs : List D) : (zipD ds fs).length = min ds.length fs.length := by unfold zipD; rw [List.length_map, List.length_zip]
theorem wi_zip {f : Expr} {ds fs : List D} {elts : List Expr} {kk : Nat} {tpos : Pos} (h : EA X [e, f] σ B (Eq [.lst ds, .lst fs])) (hm : X.mg "zip" = none) (hg : Gl X "zip" := by rfl)
    (hs : starEach [e, f] X.env = (false, eval e X.env) :: starEach [f] X.env := by rfl) (hpl : (backTo pos (starEach [f] X.env)).any (·.1) = false := by rfl) :
    WI X (.Tuple elts kk tpos) (.Call (.Name "zip" px) [e, f] [] pos) σ B (Eq (zipD ds fs)) := fun B1 H e1 e2 R k =>
  RI.of (pi_zip hg hm cA hs hpl) (h B1 H e1 e2 _ fun vs l B' H' s q r => by
    subst q
    simp only [RpL] at r
    obtain ⟨v, r1, rfl, ra, w, r2, rfl, rb, rfl⟩ := r
    obtain ⟨a, us, rfl, h1, h2⟩ := Rp.lst.mp ra
    obtain ⟨b, ws, rfl, h3, h4⟩ := Rp.lst.mp rb
    refine ⟨a, b, us, ws, rfl, SqL.of (s.bh _ _ h1), SqL.of (s.bh _ _ h3), k _ (zipD ds fs) B' H' s rfl ⟨_, _, walk_zip (xs := us) (ys := ws) (by rw [zipD_length, h2.length, h4.length]), fun H q => ⟨SqL.of (q _ _ h1), SqL.of (q _ _ h3)⟩, fun i H v H' B1 hi e1 e2 q => ?_⟩⟩
    obtain ⟨T, x, y, rfl, hT, rfl, hx, hy⟩ := q
    obtain ⟨d, hd, rd⟩ := h2.get hx
    obtain ⟨d', hd', rd'⟩ := h4.get hy
    have e3 := e1.trans (Ex.new (o := .tup [x, y]) (e2.back hT))
    refine ⟨_, .tup [d, d'], Step.alloc e2 hT, ?_, Rp.tup.mpr ⟨T, _, rfl, SqT.of upd_same, RpL.cons (rd.mono e3) (RpL.cons (rd'.mono e3) RpL.nil)⟩⟩
    unfold zipD
    rw [List.getElem?_map, (List.getElem?_zip_eq_some (z := (d, d'))).mpr ⟨hd, hd'⟩]; rfl)

/-! ### comprehensions -/
/-- the block's runs, for any entry -/
def BE (X : Cx) (scope : Scope) (e : Expr) : TE := fun σ H Q => ∀ s H0 C cl fp, RE (X.blk s H0 scope (compEnvC scope cl C X.env) fp) e σ H Q
theorem cBE {scope : Scope} {e : Expr} (s : Shared) (H : Hp) (C : Addr) (cl : List (Str × Addr)) (fp : List Addr) : PE (X.blk s H scope (compEnvC scope cl C X.env) fp) e (BE X scope e) :=
  ⟨fun pins s' _ _ _ I h => h s H C cl fp pins s' I⟩
def BT (X : Cx) (scope : Scope) (e : Expr) : TT := fun σ H Q => ∀ s H0 C cl fp, RT (X.blk s H0 scope (compEnvC scope cl C X.env) fp) e σ H Q
theorem cBT {scope : Scope} {e : Expr} (s : Shared) (H : Hp) (C : Addr) (cl : List (Str × Addr)) (fp : List Addr) : PT (X.blk s H scope (compEnvC scope cl C X.env) fp) e (BT X scope e) :=
  ⟨fun pins s' _ _ _ I h => h s H C cl fp pins s' I⟩
/-- what the element is worth in the block, whatever the block's entry -/
def BN (X : Cx) (scope : Scope) (e : Expr) (σ : L2.St) (B : Hp) (P : D → Prop) : Prop := ∀ s H0 C cl fp, EN (X.blk s H0 scope (compEnvC scope cl C X.env) fp) e σ B P
def BTst (X : Cx) (scope : Scope) (e : Expr) (σ : L2.St) (B : Hp) (P : Bool → Prop) : Prop := ∀ s H0 C cl fp, ET (X.blk s H0 scope (compEnvC scope cl C X.env) fp) e σ B P
theorem BN.be {scope : Scope} {B1 H : Hp} {Q : VK} (h : BN X scope e σ B P) (e1 : Ex B B1) (e2 : Ex B1 H) (k : ∀ v d B' H', Step B1 H B' H' → P d → Rp X.K B' d v → Q v H') : BE X scope e σ H Q :=
  fun s H0 C cl fp => h s H0 C cl fp B1 H e1 e2 Q k
theorem BTst.bt {scope : Scope} {B1 H : Hp} {Pt : Bool → Prop} {Q : Bool → Hp → Prop} (h : BTst X scope e σ B Pt) (e1 : Ex B B1) (e2 : Ex B1 H) (k : ∀ b B' H', Step B1 H B' H' → Pt b → Q b H') : BT X scope e σ H Q :=
  fun s H0 C cl fp => h s H0 C cl fp B1 H e1 e2 Q k
/-- how the target's stores change the slots -/
def GT (K : PySem.W.Frag) (g : TG) (set : L2.St → List V → L2.St) (parts : D → Option (List D)) : Prop :=
  ∀ v d B H σ (Q : L2.St → Hp → Prop) ds, Ex B H → Rp K B d v → parts d = some ds → (∀ vs, RpL K B ds vs → Q (set σ vs) H) → g v σ H Q
def set1 (j : Nat) : L2.St → List V → L2.St := fun σ vs => σ.set j vs.head?
def set2 (i j : Nat) : L2.St → List V → L2.St := fun σ vs => (σ.set i vs.head?).set j (vs.drop 1).head?
theorem gt_name {K : PySem.W.Frag} (j : Nat) : GT K (gName j) (set1 j) (fun d => some [d]) := fun v d B H σ Q ds e r q k => by
  cases q
  exact k [v] (RpL.cons r RpL.nil)
/-- a pair's parts -/
def pair? : D → Option (List D)
  | .tup [a, b] => some [a, b]
  | _ => none
theorem gt_pair {K : PySem.W.Frag} (i j : Nat) : GT K (gTup K 2 (gCons (gName i) (gCons (gName j) gNil))) (set2 i j) pair? := fun v d B H σ Q ds e r q k => by
  unfold pair? at q
  split at q
  · cases q
    rename_i a b
    obtain ⟨t, vs, rfl, h1, h2⟩ := Rp.tup.mp r
    have hl := h2.length
    have k2 := k vs h2
    simp only [RpL] at h2
    obtain ⟨v1, r1, rfl, ra, v2, r2, rfl, rb, rfl⟩ := h2
    exact ⟨t, _, rfl, e.t h1, rfl, v1, [v2], rfl, v2, [], rfl, rfl, k2⟩
  · cases q
/-- the state of a comprehension: the list at L holds the data out of the first i -/
def Lw (K : PySem.W.Frag) (B H0 : Hp) (L : Addr) (out : Nat → List D → Prop) (i : Nat) (H : Hp) : Prop :=
  ∃ B' vs es, Ex B B' ∧ Ex B' H ∧ Ex H0 H ∧ (∀ a, B a = none → H0 a ≠ none → B' a = none) ∧ B' L = none ∧ H0 L = none ∧ H L = some (.lst vs) ∧ RpL K B' es vs ∧ out i es
/-- the core: any target, no test or one -/
theorem lc_run {wi : TI} {g : TG} {tt : TT} {te : TE} {vs : List Nat} {set : L2.St → List V → L2.St} {parts : D → Option (List D)} {H : Hp} {Q : VK} {Pds : List D → Prop} {t : Nat → D → Bool} {Pe : Nat → D → D → Prop}
    (hw : ∀ R : It → Hp → Prop, (∀ J ds B' H', Step B H B' H' → Pds ds → Wk X.K J B' ds → R J H') → wi σ H R)
    (hg : GT X.K g set parts) (hwipe : ∀ v, wipe (set (wipe σ vs) v) vs = wipe σ vs)
    (hsz : ∀ ds, Pds ds → ds.length ≤ sizeLine)
    (hp : ∀ ds, Pds ds → ∀ i d, ds[i]? = some d → ∃ ps, parts d = some ps ∧ ∀ B1 H1 us, Ex B B1 → Ex B1 H1 → RpL X.K B1 ps us →
      (∀ Q : Bool → Hp → Prop, (∀ B' H', Step B1 H1 B' H' → Q (t i d) H') → tt (set (wipe σ vs) us) H1 Q) ∧
      (t i d = true → ∀ B2 H2, Ex B1 B2 → Ex B2 H2 → ∀ Q : VK, (∀ v e B' H', Step B2 H2 B' H' → Pe i d e → Rp X.K B' e v → Q v H') → te (set (wipe σ vs) us) H2 Q))
    (he : Ex B H)
    (k : ∀ L es ws ds B' H', Step B H B' H' → H L = none → B' L = none → H' L = some (.lst ws) → RpL X.K B' es ws → Pds ds →
      (∃ l : List (Option D), l.length = ds.length ∧ es = l.filterMap _root_.id ∧ ∀ (i : Nat) (d : D), ds[i]? = some d → (t i d = false ∧ l[i]? = some none) ∨ (t i d = true ∧ ∃ e, l[i]? = some (some e) ∧ Pe i d e)) → Q (.ref L) H') :
    tLc wi g tt te vs σ H Q := by
  refine hw _ fun J ds B1 H1 s pds w => ?_
  obtain ⟨G, Y, wk, hG, hY⟩ := w
  intro L hL
  -- what the list holds behind i turns
  let out : Nat → List D → Prop := fun n es => ∃ l : List (Option D), l.length = n ∧ es = l.filterMap _root_.id ∧ ∀ (i : Nat) (d : D), i < n → ds[i]? = some d → (t i d = false ∧ l[i]? = some none) ∨ (t i d = true ∧ ∃ e, l[i]? = some (some e) ∧ Pe i d e)
  refine lc_it wk (Lw X.K B1 H1 L out) ⟨B1, [], [], Ex.refl _, s.bh.trans (Ex.new hL), Ex.new hL, fun _ h _ => h, s.bh.back hL, hL, upd_same, RpL.nil, [], rfl, rfl, fun i d hi => absurd hi (Nat.not_lt_zero _)⟩
    (fun i H' _ ⟨B', _, _, q1, q2, _⟩ => hG H' (q1.trans q2)) (fun i v H2 H3 hi ⟨B', ws, es, q1, q2, q3, q4, q5, q6, q7, q8, l, l1, l2, l3⟩ y => ?_) (fun H' ⟨B', ws, es, q1, q2, q3, q4, q5, q6, q7, q8, l, l1, l2, l3⟩ => ?_)
  · obtain ⟨B2, d, s2, hd, rd⟩ := hY i H2 v H3 B' hi q1 q2 y
    obtain ⟨ps, hps, run⟩ := hp ds pds i d hd
    refine hg v d B2 H3 _ _ ps s2.bh rd hps fun us rus => ?_
    refine ⟨hwipe us, ?_⟩
    obtain ⟨rt, re⟩ := run B2 H3 us (s.b.trans (q1.trans s2.b)) s2.bh rus
    have k2 := s2.keep q5 q7
    refine rt _ fun B3 H4 s3 => ?_
    have k3 := s3.keep k2.1 k2.2
    cases ht : t i d with
    | false =>
      refine iteF ⟨B3, ws, es, q1.trans (s2.b.trans s3.b), s3.bh, q3.trans (s2.h.trans s3.h), fun a h1 h2 => ?_, k3.1, q6, k3.2, q8.mono (s2.b.trans s3.b), l ++ [none], by simp [l1], by simp [l2], fun j d' hj hd' => ?_⟩
      · exact s3.nw a (s2.nw a (q4 a h1 h2) (fun z => h2 (q3.back z))) (fun z => h2 (q3.back (s2.h.back z)))
      · by_cases hji : j < i
        · rcases l3 j d' hji hd' with ⟨z1, z2⟩ | ⟨z1, e', z2, z3⟩
          · exact .inl ⟨z1, by rw [List.getElem?_append_left (by omega)]; exact z2⟩
          · exact .inr ⟨z1, e', by rw [List.getElem?_append_left (by omega)]; exact z2, z3⟩
        · have ej : j = i := by omega
          subst ej
          rw [hd] at hd'; cases hd'
          exact .inl ⟨ht, by rw [List.getElem?_append_right (by omega), l1]; simp⟩
    | true =>
      refine iteT (re ht B3 H4 s3.b s3.bh _ fun ev ed B4 H5 s4 pe4 r4 => ?_)
      have k4 := s4.keep k3.1 k3.2
      refine ⟨ws, k4.2, ?_, B4, ws ++ [ev], es ++ [ed], q1.trans (s2.b.trans (s3.b.trans s4.b)), s4.bh.put k4.1, (q3.trans (s2.h.trans (s3.h.trans s4.h))).put q6, fun a h1 h2 => ?_, k4.1, q6, upd_same, (q8.mono (s2.b.trans (s3.b.trans s4.b))).append (RpL.cons r4 RpL.nil), l ++ [some ed], by simp [l1], by simp [l2], fun j d' hj hd' => ?_⟩
      · have h1 := hsz ds pds
        have h2 : es.length ≤ l.length := by rw [l2]; exact List.length_filterMap_le _ _
        have h3 := q8.length
        omega
      · exact s4.nw a (s3.nw a (s2.nw a (q4 a h1 h2) (fun z => h2 (q3.back z))) (fun z => h2 (q3.back (s2.h.back z)))) (fun z => h2 (q3.back (s2.h.back (s3.h.back z))))
      · by_cases hji : j < i
        · rcases l3 j d' hji hd' with ⟨z1, z2⟩ | ⟨z1, e', z2, z3⟩
          · exact .inl ⟨z1, by rw [List.getElem?_append_left (by omega)]; exact z2⟩
          · exact .inr ⟨z1, e', by rw [List.getElem?_append_left (by omega)]; exact z2, z3⟩
        · have ej : j = i := by omega
          subst ej
          rw [hd] at hd'; cases hd'
          exact .inr ⟨ht, ed, by rw [List.getElem?_append_right (by omega), l1]; simp, pe4⟩
  · refine k L es ws ds B' H' ⟨s.b.trans q1, q2, s.h.trans q3, fun a h1 h2 => q4 a (s.nw a h1 h2) (fun z => h2 (s.h.back z))⟩ (s.h.back q6) q5 q7 q8 pds ⟨l, l1, l2, fun i d hd => ?_⟩
    exact l3 i d (List.getElem?_eq_some_iff.mp hd).1 hd
end
end Fx
set_option Elab.async false
set_option linter.all false
set_option maxRecDepth 100000
set_option maxHeartbeats 2000000
/-! Fx, part 6: comprehensions in use, blocks, loops, defs. -/
namespace Fx
open PySem L2

section
variable {X : Cx} {e elt iter tg c : Expr} {es ifs : List Expr} {σ : L2.St} {B B' H : Hp} {P P' Pa Pb : D → Prop} {PL Pds : List D → Prop} {p pos apos px py spos : Pos} {rest sts sts' : List Stmt} {x y z : Str} {id : String} {scope : Scope} {own : List (Str × Nat)}

theorem filterMap_some {α : Type} : ∀ {l : List (Option α)} {n : Nat}, l.length = n → (∀ (i : Nat), i < n → ∃ (e : α), l[i]? = some (some e)) → (l.filterMap _root_.id).length = n ∧ ∀ (i : Nat) (e : α), l[i]? = some (some e) → (l.filterMap _root_.id)[i]? = some e
  | [], n, h, _ => by subst h; exact ⟨rfl, fun i e z => by simp at z⟩
  | o :: l, n, h, k => by
    subst h
    obtain ⟨e, he⟩ := k 0 (by simp)
    simp at he
    subst he
    obtain ⟨a, b⟩ := filterMap_some (l := l) rfl (fun i hi => by simpa using k (i + 1) (by simpa using hi))
    refine ⟨by simp [a], fun i e z => ?_⟩
    cases i with
    | zero => simpa using z
    | succ i => simpa using b i e (by simpa using z)
/-- the items that pass, changed -/
theorem filterMap_of {α β : Type} {t : α → Bool} {f : α → β} : ∀ {ds : List α} {l : List (Option β)}, l.length = ds.length → (∀ (i : Nat) (d : α), ds[i]? = some d → (t d = false ∧ l[i]? = some none) ∨ (t d = true ∧ ∃ e, l[i]? = some (some e) ∧ f d = e)) → l.filterMap _root_.id = (ds.filter t).map f
  | [], l, h, _ => by
    have e : l = [] := List.length_eq_zero_iff.mp h
    subst e; rfl
  | d :: ds, [], h, _ => by simp at h
  | d :: ds, o :: l, h, k => by
    have ih := filterMap_of (ds := ds) (l := l) (by simpa using h) (fun i d' hd => by simpa using k (i + 1) d' (by simpa using hd))
    rcases k 0 d rfl with ⟨z1, z2⟩ | ⟨z1, e, z2, z3⟩
    · simp at z2
      subst z2
      rw [List.filter_cons, if_neg (by rw [z1]; exact Bool.false_ne_true), ← ih]; rfl
    · simp at z2
      subst z2
      subst z3
      rw [List.filter_cons, if_pos z1, List.map_cons, ← ih]; rfl

/-! ### comprehensions as expressions -/
/-- the target is a name: how a turn begins -/
abbrev Tn (X : Cx) (scope : Scope) (tg : Expr) (g : TG) : Prop := ∀ (s : Shared) (H : Hp) (C : Addr) (cl : List (Str × Addr)) (fp : List Addr), PG (X.blk s H scope (compEnvC scope cl C X.env) fp) tg g
/-- no test; the items may be drawn -/
theorem lc_all {j : Nat} {wi : TI} {te : TE} {vs : List Nat} {H : Hp} {Q : VK} {Pe : Nat → D → D → Prop}
    (hw : ∀ R : It → Hp → Prop, (∀ J ds B' H', Step B H B' H' → Pds ds → Wk X.K J B' ds → R J H') → wi σ H R) (hwipe : ∀ v, wipe (set1 j (wipe σ vs) v) vs = wipe σ vs) (hsz : ∀ ds, Pds ds → ds.length ≤ sizeLine)
    (hel : ∀ ds, Pds ds → ∀ i d, ds[i]? = some d → ∀ B1 v, Ex B B1 → Rp X.K B1 d v → ∀ B2 H2, Ex B1 B2 → Ex B2 H2 → ∀ Q : VK, (∀ v e B' H', Step B2 H2 B' H' → Pe i d e → Rp X.K B' e v → Q v H') → te ((wipe σ vs).set j (some v)) H2 Q)
    (he : Ex B H) (k : ∀ L es ws ds B' H', Step B H B' H' → H L = none → B' L = none → H' L = some (.lst ws) → RpL X.K B' es ws → Pds ds → es.length = ds.length → (∀ i d, ds[i]? = some d → ∃ e, es[i]? = some e ∧ Pe i d e) → Q (.ref L) H') :
    tLc wi (gName j) tYes te vs σ H Q :=
  lc_run (t := fun _ _ => true) (Pe := Pe) hw (gt_name j) hwipe hsz (fun ds pds i d hd => ⟨[d], rfl, fun B1 H1 us e1 e2 r => by
    simp only [RpL] at r
    obtain ⟨v, r1, rfl, rv, rfl⟩ := r
    exact ⟨fun Q q => q B1 H1 (Step.refl e2), fun _ B2 H2 e3 e4 Q q => hel ds pds i d hd B1 v e1 rv B2 H2 e3 e4 Q q⟩⟩) he
    (fun L es ws ds B' H' s h0 h1 h2 r pds ⟨l, l1, l2, l3⟩ => by
      have l3' : ∀ (i : Nat) (d : D), ds[i]? = some d → ∃ e, l[i]? = some (some e) ∧ Pe i d e := fun i d hd => by
        rcases l3 i d hd with ⟨z, _⟩ | ⟨_, z⟩
        · cases z
        · exact z
      have fm := filterMap_some l1 (fun i hi => by
        obtain ⟨e, a, _⟩ := l3' i _ (List.getElem?_eq_getElem hi)
        exact ⟨e, a⟩)
      subst l2
      refine k L _ ws ds B' H' s h0 h1 h2 r pds fm.1 fun i d hd => ?_
      obtain ⟨e, a, b⟩ := l3' i d hd
      exact ⟨e, fm.2 i e a, b⟩)
/-- what a comprehension's premises are -/
structure LcOk (X : Cx) (elt tg iter : Expr) (ifs : List Expr) (scope : Scope) (wi : TI) (g : TG) (tt : TT) (te : TE) (own : List (Str × Nat)) : Prop where
  hi : PI X tg iter wi
  ok : BlkOk X.N X.env.scope scope own
  hg : ∀ (s : Shared) (H : Hp) (C : Addr) (cl : List (Str × Addr)) (fp : List Addr), PG (X.blk s H scope (compEnvC scope cl C X.env) fp) tg g
  ht : ∀ (s : Shared) (H : Hp) (C : Addr) (cl : List (Str × Addr)) (fp : List Addr), PTs (X.blk s H scope (compEnvC scope cl C X.env) fp) ifs tt
  he : ∀ (s : Shared) (H : Hp) (C : Addr) (cl : List (Str × Addr)) (fp : List Addr), PE (X.blk s H scope (compEnvC scope cl C X.env) fp) elt te
  hs : ∀ x, foldedSetIterable iter X.env x = pure x
/-- a comprehension's new list, its items -/
def LC (X : Cx) (elt tg iter : Expr) (ifs : List Expr) (scope : Scope) (σ : L2.St) (B : Hp) (P : List D → Prop) : Prop :=
  ∀ B1 H, Ex B B1 → Ex B1 H → ∀ Q : VK, (∀ p ds vs B' H', Step B1 H B' H' → H p = none → B' p = none → H' p = some (.lst vs) → P ds → RpL X.K B' ds vs → Q (.ref p) H') →
    ∃ wi g tt te own, LcOk X elt tg iter ifs scope wi g tt te own ∧ tLc wi g tt te (own.map (·.2)) σ H Q
theorem LC.ef {ifs : List Expr} (h : LC X elt tg iter ifs scope σ B PL) (hN : X.N.Nodup) (hc : X.calm = true := by rfl) : EF X (.ListComp elt [⟨tg, iter, ifs, 0⟩] scope pos) σ B PL := fun B1 H e1 e2 Q k => by
  obtain ⟨wi, g, tt, te, own, O, q⟩ := h B1 H e1 e2 Q k
  exact RE.of (pe_lc hc hN O.hi O.ok O.hg O.ht O.he O.hs) q
theorem LC.imp {ifs : List Expr} {PL' : List D → Prop} (h : LC X elt tg iter ifs scope σ B PL) (q : ∀ d, PL d → PL' d) : LC X elt tg iter ifs scope σ B PL' := fun B1 H e1 e2 Q k => h B1 H e1 e2 Q fun p ds vs B' H' s h0 h1 h2 pl r => k p ds vs B' H' s h0 h1 h2 (q ds pl) r
theorem lN {j : Nat} {Pe : Nat → D → D → Prop} (hi : WI X (.Name x px) iter σ B Pds) (ok : BlkOk X.N X.env.scope scope own) (hg : Tn X scope (.Name x px) (gName j))
    (hwipe : ∀ v, wipe (set1 j (wipe σ (own.map (·.2))) v) (own.map (·.2)) = wipe σ (own.map (·.2))) (hsz : ∀ ds, Pds ds → ds.length ≤ sizeLine)
    (hel : ∀ ds, Pds ds → ∀ i d, ds[i]? = some d → ∀ B1 v, Ex B B1 → Rp X.K B1 d v → BN X scope elt ((wipe σ (own.map (·.2))).set j (some v)) B1 (Pe i d))
    (hs : ∀ x, foldedSetIterable iter X.env x = pure x := by intro _; rfl) :
    LC X elt (.Name x px) iter [] scope σ B (fun es => ∃ ds, Pds ds ∧ es.length = ds.length ∧ ∀ i d, ds[i]? = some d → ∃ e, es[i]? = some e ∧ Pe i d e) := fun B1 H e1 e2 Q k =>
  ⟨_, _, _, _, own, ⟨cI, ok, hg, fun _ _ _ _ _ => pts_nil, cBE, hs⟩, lc_all (hi B1 H e1 e2) hwipe hsz (fun ds pds i d hd B2 v e3 r B3 H3 e4 e5 Q q => (hel ds pds i d hd B2 v (e1.trans e3) r).be e4 e5 q) e2
    fun L es ws ds B' H' s h0 h1 h2 r pds l1 l2 => k L es ws B' H' s h0 h1 h2 ⟨ds, pds, l1, l2⟩ r⟩
/-- each item changed by f -/
theorem lM {j : Nat} {ds : List D} {f : D → D} (hi : WI X (.Name x px) iter σ B (Eq ds)) (ok : BlkOk X.N X.env.scope scope own) (hg : Tn X scope (.Name x px) (gName j))
    (hwipe : ∀ v, wipe (set1 j (wipe σ (own.map (·.2))) v) (own.map (·.2)) = wipe σ (own.map (·.2))) (hsz : ds.length ≤ sizeLine)
    (hel : ∀ d, d ∈ ds → ∀ B1 v, Ex B B1 → Rp X.K B1 d v → BN X scope elt ((wipe σ (own.map (·.2))).set j (some v)) B1 (Eq (f d)))
    (hs : ∀ x, foldedSetIterable iter X.env x = pure x := by intro _; rfl) :
    LC X elt (.Name x px) iter [] scope σ B (Eq (ds.map f)) :=
  (lN (Pe := fun _ d => Eq (f d)) hi ok hg hwipe (fun _ q => q ▸ hsz) (fun ds' q i d hd B1 v e1 r => hel d (q ▸ List.mem_of_getElem? hd) B1 v e1 r) hs).imp fun es ⟨ds', q, h1, h2⟩ => by
    subst q
    refine (List.ext_getElem? fun i => ?_).symm
    rw [List.getElem?_map]
    cases hd : ds[i]? with
    | none =>
      rw [List.getElem?_eq_none_iff] at hd
      rw [List.getElem?_eq_none_iff.mpr (by omega)]; rfl
    | some d =>
      obtain ⟨e, he, q⟩ := h2 i d hd
      rw [he, ← q]; rfl
/-- those that pass, changed by f -/
theorem lT {j : Nat} {ds : List D} {f : D → D} {t : D → Bool} (hi : WI X (.Name x px) iter σ B (Eq ds)) (ok : BlkOk X.N X.env.scope scope own) (hg : Tn X scope (.Name x px) (gName j))
    (hwipe : ∀ v, wipe (set1 j (wipe σ (own.map (·.2))) v) (own.map (·.2)) = wipe σ (own.map (·.2))) (hsz : ds.length ≤ sizeLine)
    (htt : ∀ d, d ∈ ds → ∀ B1 v, Ex B B1 → Rp X.K B1 d v → BTst X scope c ((wipe σ (own.map (·.2))).set j (some v)) B1 (Eq (t d)))
    (hel : ∀ d, d ∈ ds → t d = true → ∀ B1 v, Ex B B1 → Rp X.K B1 d v → BN X scope elt ((wipe σ (own.map (·.2))).set j (some v)) B1 (Eq (f d)))
    (hs : ∀ x, foldedSetIterable iter X.env x = pure x := by intro _; rfl) :
    LC X elt (.Name x px) iter [c] scope σ B (Eq ((ds.filter t).map f)) := fun B1 H e1 e2 Q k =>
  ⟨_, _, _, _, own, ⟨cI, ok, hg, fun s H C cl fp => pts_one (cBT s H C cl fp), cBE, hs⟩, lc_run (t := fun _ d => t d) (Pe := fun _ d => Eq (f d)) (Pds := Eq ds) (hi B1 H e1 e2) (gt_name j) hwipe (fun _ q => q ▸ hsz) (fun ds' q i d hd => ⟨[d], rfl, fun B2 H2 us e3 e4 r => by
      subst q
      simp only [RpL] at r
      obtain ⟨v, r1, rfl, rv, rfl⟩ := r
      exact ⟨fun Q q => (htt d (List.mem_of_getElem? hd) B2 v (e1.trans e3) rv).bt (Ex.refl B2) e4 fun b B' H' s z => z ▸ q B' H' s, fun ht B3 H3 e5 e6 Q q => (hel d (List.mem_of_getElem? hd) ht B2 v (e1.trans e3) rv).be e5 e6 q⟩⟩) e2
      (fun L es ws ds' B' H' s h0 h1 h2 r q ⟨l, l1, l2, l3⟩ => by
        subst q
        exact k L es ws B' H' s h0 h1 h2 (by rw [l2]; exact (filterMap_of l1 l3).symm) r)⟩
/-- a pair as the target, each changed by f of its parts -/
theorem lP {i j : Nat} {ds : List D} {f : D → D} {k0 : Nat} {pt : Pos} (hi : WI X (.Tuple [.Name x px, .Name y py] k0 pt) iter σ B (Eq ds)) (ok : BlkOk X.N X.env.scope scope own)
    (hg : Tn X scope (.Tuple [.Name x px, .Name y py] k0 pt) (gTup X.K 2 (gCons (gName i) (gCons (gName j) gNil))))
    (hwipe : ∀ v, wipe (set2 i j (wipe σ (own.map (·.2))) v) (own.map (·.2)) = wipe σ (own.map (·.2))) (hsz : ds.length ≤ sizeLine)
    (hel : ∀ d, d ∈ ds → ∃ a b, d = .tup [a, b] ∧ ∀ B1 v u, Ex B B1 → Rp X.K B1 a v → Rp X.K B1 b u → BN X scope elt (((wipe σ (own.map (·.2))).set i (some v)).set j (some u)) B1 (Eq (f d)))
    (hs : ∀ x, foldedSetIterable iter X.env x = pure x := by intro _; rfl) :
    LC X elt (.Tuple [.Name x px, .Name y py] k0 pt) iter [] scope σ B (Eq (ds.map f)) := fun B1 H e1 e2 Q k =>
  ⟨_, _, _, _, own, ⟨cI, ok, hg, fun _ _ _ _ _ => pts_nil, cBE, hs⟩, lc_run (t := fun _ d => true) (Pe := fun _ d => Eq (f d)) (Pds := Eq ds) (hi B1 H e1 e2) (gt_pair i j) hwipe (fun _ q => q ▸ hsz) (fun ds' q n d hd => by
      subst q
      obtain ⟨a, b, rfl, hab⟩ := hel d (List.mem_of_getElem? hd)
      refine ⟨[a, b], rfl, fun B2 H2 us e3 e4 r => ?_⟩
      simp only [RpL] at r
      obtain ⟨v, r1, rfl, rv, u, r2, rfl, ru, rfl⟩ := r
      exact ⟨fun Q q => q B2 H2 (Step.refl e4), fun _ B3 H3 e5 e6 Q q => (hab B2 v u (e1.trans e3) rv ru).be e5 e6 q⟩) e2
      (fun L es ws ds' B' H' s h0 h1 h2 r q ⟨l, l1, l2, l3⟩ => by
        subst q
        have e0 := filterMap_of (t := fun _ => true) l1 l3
        rw [List.filter_eq_self.mpr (fun _ _ => rfl)] at e0
        exact k L es ws B' H' s h0 h1 h2 (by rw [l2]; exact e0.symm) r)⟩

/-! ### blocks -/
variable {D : Ends}
theorem rb_nil (h : D.nx σ H) : RB X [] σ H D := RB.of pss_nil h
theorem rb_cons {st : Stmt} (h : RS X st σ H { D with nx := fun σ' H' => RB X rest σ' H' D }) : RB X (st :: rest) σ H D := RB.of (pss_cons cS cB) h
theorem rb_imp {D' : Ends} (h : RB X sts σ H D) (h1 : ∀ σ H, D.nx σ H → D'.nx σ H) (h2 : ∀ v H, D.rt v H → D'.rt v H) (h3 : ∀ σ H, D.bk σ H → D'.bk σ H) (h4 : ∀ σ H, D.ct σ H → D'.ct σ H) : RB X sts σ H D' := fun pins s I =>
  thn (h pins s I) fun f s' q => by
    cases f with
    | next => obtain ⟨σ', H', I', z⟩ := q; exact ⟨σ', H', I', h1 _ _ z⟩
    | brk => obtain ⟨σ', H', I', z⟩ := q; exact ⟨σ', H', I', h3 _ _ z⟩
    | cont => obtain ⟨σ', H', I', z⟩ := q; exact ⟨σ', H', I', h4 _ _ z⟩
    | ret u => obtain ⟨v, σ', H', I', r, z⟩ := q; exact ⟨v, σ', H', I', r, h2 _ _ z⟩
/-- return e -/
theorem rb_ret (he : EN X e σ B P) (hx : Ex B H) (k : ∀ v d B' H', Step B H B' H' → P d → Rp X.K B' d v → D.rt v H') : RB X (.Return (some e) pos :: rest) σ H D :=
  rb_cons (RS.of (ps_ret cE) (he B H (Ex.refl B) hx _ k))
theorem rb_retF (he : EF X e σ B PL) (hx : Ex B H) (k : ∀ p ds vs B' H', Step B H B' H' → H p = none → B' p = none → H' p = some (.lst vs) → PL ds → RpL X.K B' ds vs → D.rt (.ref p) H') : RB X (.Return (some e) pos :: rest) σ H D :=
  rb_cons (RS.of (ps_ret cE) (he B H (Ex.refl B) hx _ k))
/-- name = e -/
theorem rb_set {i : Nat} (hN : X.N.Nodup) (he : EN X e σ B P) (hx : Ex B H) (k : ∀ v d B' H', Step B H B' H' → P d → Rp X.K B' d v → RB X rest (σ.set i (some v)) H' D)
    (hi : X.N[i]? = some x := by rfl) (hl : Loc X.env.scope x := by first | exact Or.inl rfl | exact Or.inr rfl) (hs : swapsWith e (some (.Name x px)) pos.line X.env = pure false := by rfl) (hf : X.fn x = true ∨ X.env.scope.names.lookup x = some .local := by first | exact .inl rfl | exact .inr rfl) :
    RB X (.Assign [.Name x px] e pos :: rest) σ H D :=
  rb_cons (RS.of (ps_set hN hi hl cE hs hf) (he B H (Ex.refl B) hx _ k))
/-- .. a new list of one's own -/
theorem rb_setF {i : Nat} (hN : X.N.Nodup) (he : EF X e σ B PL) (hx : Ex B H) (k : ∀ p ds vs B' H', Step B H B' H' → H p = none → B' p = none → H' p = some (.lst vs) → PL ds → RpL X.K B' ds vs → RB X rest (σ.set i (some (.ref p))) H' D)
    (hi : X.N[i]? = some x := by rfl) (hl : Loc X.env.scope x := by first | exact Or.inl rfl | exact Or.inr rfl) (hs : swapsWith e (some (.Name x px)) pos.line X.env = pure false := by rfl) (hf : X.fn x = true ∨ X.env.scope.names.lookup x = some .local := by first | exact .inl rfl | exact .inr rfl) :
    RB X (.Assign [.Name x px] e pos :: rest) σ H D :=
  rb_cons (RS.of (ps_set hN hi hl cE hs hf) (he B H (Ex.refl B) hx _ k))
/-- name = [..] on one line (the name a plain local) -/
theorem rb_setLc {i : Nat} {ifs : List Expr} (hc : X.calm = true) (hN : X.N.Nodup) (he : LC X elt tg iter ifs scope σ B PL) (hx : Ex B H) (k : ∀ p ds vs B' H', Step B H B' H' → H p = none → B' p = none → H' p = some (.lst vs) → PL ds → RpL X.K B' ds vs → RB X rest (σ.set i (some (.ref p))) H' D)
    (hi : X.N[i]? = some x := by rfl) (hl : X.env.scope.names.lookup x = some .local := by rfl) (hsw : swapsWith (.ListComp elt [⟨tg, iter, ifs, 0⟩] scope pos) (some (.Name x px)) spos.line X.env = pure true := by rfl) :
    RB X (.Assign [.Name x px] (.ListComp elt [⟨tg, iter, ifs, 0⟩] scope pos) spos :: rest) σ H D := by
  obtain ⟨wi, g, tt, te, own, O, q⟩ := he B H (Ex.refl B) hx (fun v H' => RB X rest (σ.set i (some v)) H' D) k
  exact rb_cons (RS.of (ps_setLc hc hN hi hl hsw O.hi O.ok O.hg O.ht O.he O.hs) q)
/-- a, b = e, f -/
theorem rb_par {i j : Nat} {a b : Expr} {pt pt2 : Pos} {kt k2 : Nat} (hc : X.calm = true) (hN : X.N.Nodup) (ha : EA X [a, b] σ B PL) (hx : Ex B H) (hij : i ≠ j) (k : ∀ vs ds B' H', Step B H B' H' → PL ds → RpL X.K B' ds vs → ∃ v w, vs = [v, w] ∧ RB X rest ((σ.set i (some v)).set j (some w)) H' D)
    (hw : swappedStores [.Tuple [.Name x px, .Name y py] kt pt] (.Tuple [a, b] k2 pt2) X.env = pure (some [x, y]) := by rfl)
    (hi : X.N[i]? = some x := by rfl) (hj : X.N[j]? = some y := by rfl) (hlx : X.env.scope.names.lookup x = some .local := by rfl) (hly : X.env.scope.names.lookup y = some .local := by rfl) (hs : swapsWithSole [.Tuple [.Name x px, .Name y py] kt pt] (.Tuple [a, b] k2 pt2) pos.line X.env = pure false := by rfl) :
    RB X (.Assign [.Tuple [.Name x px, .Name y py] kt pt] (.Tuple [a, b] k2 pt2) pos :: rest) σ H D :=
  rb_cons (RS.of (ps_par hc hN hi hj hij hlx hly cA hw hs) (ha B H (Ex.refl B) hx _ k))
/-- if: the test is decided -/
theorem rb_if {t : Bool} (hc : ET X c σ B (Eq t)) (hx : Ex B H) (h1 : t = true → ∀ B' H', Step B H B' H' → RB X sts σ H' { D with nx := fun σ' H' => RB X rest σ' H' D }) (h2 : t = false → ∀ B' H', Step B H B' H' → RB X sts' σ H' { D with nx := fun σ' H' => RB X rest σ' H' D }) :
    RB X (.If c sts sts' pos :: rest) σ H D :=
  rb_cons (RS.of (ps_if cT cB cB) (hc B H (Ex.refl B) hx _ fun b B' H' s q => by
    subst q
    cases t with
    | true => exact iteT (h1 rfl B' H' s)
    | false => exact iteF (h2 rfl B' H' s)))
/-- .. any of both answers -/
theorem rb_ifN {Pt : Bool → Prop} (hc : ET X c σ B Pt) (hx : Ex B H) (h1 : Pt true → ∀ B' H', Step B H B' H' → RB X sts σ H' { D with nx := fun σ' H' => RB X rest σ' H' D }) (h2 : Pt false → ∀ B' H', Step B H B' H' → RB X sts' σ H' { D with nx := fun σ' H' => RB X rest σ' H' D }) :
    RB X (.If c sts sts' pos :: rest) σ H D :=
  rb_cons (RS.of (ps_if cT cB cB) (hc B H (Ex.refl B) hx _ fun b B' H' s q => by
    cases b with
    | true => exact iteT (h1 q B' H' s)
    | false => exact iteF (h2 q B' H' s)))
/-- an expression alone -/
theorem rb_drop (he : EN X e σ B P) (hx : Ex B H) (k : ∀ v d B' H', Step B H B' H' → P d → Rp X.K B' d v → RB X rest σ H' D) (hs : swapsWith e none pos.line X.env = pure false := by rfl) : RB X (.Expr e pos :: rest) σ H D :=
  rb_cons (RS.of (ps_expr cE hs) (he B H (Ex.refl B) hx _ k))
theorem rb_pass (h : RB X rest σ H D) : RB X (.Pass pos :: rest) σ H D := rb_cons (RS.of ps_pass h)
theorem rb_cont (h : D.ct σ H) : RB X (.Continue pos :: rest) σ H D := rb_cons (RS.of ps_continue h)
theorem rb_brk (h : D.bk σ H) : RB X (.Break pos :: rest) σ H D := rb_cons (RS.of ps_break h)
/-- xs.append(e), xs of one's own -/
theorem rb_append {i : Nat} {q : Addr} {vs : List V} (hq : σ[i]? = some (some (.ref q))) (h1 : B q = none) (h2 : H q = some (.lst vs)) (hz : vs.length < sizeLine) (he : EN X e σ B P) (hx : Ex B H)
    (k : ∀ v d B' H', Step B H B' H' → B' q = none → P d → Rp X.K B' d v → RB X rest σ (upd H' q (.lst (vs ++ [v]))) D)
    (hs : swapsWith (.Call (.Attribute (.Name x px) "append" apos) [e] [] p) none pos.line X.env = pure false := by rfl)
    (hpe : PE X (.Call (.Attribute (.Name x px) "append" apos) [e] [] p) (tBM X.K "list" rAppend (tVar i) (tCons (RE X e) tNil)) := by exact pe_bm PySem.F.plainAttrs_list PySem.F.slot_list_append PySem.F.type_list_append mt_append (pv _) (pa_cons cE pa_nil)) :
    RB X (.Expr (.Call (.Attribute (.Name x px) "append" apos) [e] [] p) pos :: rest) σ H D :=
  rb_cons (RS.of (ps_expr hpe hs)
    ⟨.ref q, hq, .inl ⟨rfl, _, SqL.of h2⟩, he B H (Ex.refl B) hx _ fun v d B' H' s pd r => by
      have kp := s.keep h1 h2
      exact ⟨q, vs, v, rfl, rfl, kp.2, hz, k v d B' H' s kp.1 pd r⟩⟩)
end
end Fx
set_option Elab.async false
set_option linter.all false
set_option maxRecDepth 100000
set_option maxHeartbeats 2000000
/-! Fx, part 7: loops, defs and their promises (with the guards told). -/
namespace Fx
open PySem L2

section
variable {X : Cx} {e iter tg c : Expr} {es : List Expr} {σ : L2.St} {B H : Hp} {Pds : List D → Prop} {pos : Pos} {rest body : List Stmt} {D : Ends}
/-- for: after the walked thing has come (data ds, base B', heap H'), a word Pv of the turn, the slots, the base, the heap -/
theorem rb_for {g : TG} {set : L2.St → List V → L2.St} {parts : Fx.D → Option (List Fx.D)} (hp : PassesOwn (model X.prog X.w) X.A X.env X.xe) (hc : X.calm = true) (hi : WI X tg iter σ B Pds) (hg : PG X tg g) (gt : GT X.K g set parts) (hx : Ex B H)
    (k : ∀ ds B' H', Step B H B' H' → Pds ds → ∃ Pv : Nat → L2.St → Hp → Hp → Prop, Pv 0 σ B' H' ∧ (∀ i σ1 B1 H1, Pv i σ1 B1 H1 → Ex B' B1 ∧ Ex B1 H1) ∧
      (∀ i d σ1 B1 H1, ds[i]? = some d → Pv i σ1 B1 H1 → ∃ ps, parts d = some ps ∧ ∀ B2 H2 us, Step B1 H1 B2 H2 → RpL X.K B2 ps us →
        RB X body (set σ1 us) H2 { D with nx := fun σ' H' => ∃ B3, Pv (i + 1) σ' B3 H', ct := fun σ' H' => ∃ B3, Pv (i + 1) σ' B3 H', bk := fun σ' H' => RB X rest σ' H' D }) ∧
      (∀ σ1 B1 H1, Pv ds.length σ1 B1 H1 → RB X rest σ1 H1 D))
    (hs : ∀ x, foldedSetIterable iter X.env x = pure x := by intro _; rfl) : RB X (.For tg iter body [] pos :: rest) σ H D := by
  refine rb_cons (RS.of (ps_for hp hc cI hg cB hs) (hi B H (Ex.refl B) hx _ fun J ds B' H' s pds w => ?_))
  obtain ⟨Pv, h0, hex, hturn, hend⟩ := k ds B' H' s pds
  obtain ⟨G, Y, wk, hG, hY⟩ := w
  refine for_it (g := g) (tb := fun D σ H => RB X body σ H D) (D := { D with nx := fun σ' H' => RB X rest σ' H' D }) wk (fun i σ1 H1 => ∃ B1, Pv i σ1 B1 H1) ⟨B', h0⟩ (fun i σ1 H1 _ ⟨B1, p⟩ => hG H1 ((hex i σ1 B1 H1 p).1.trans (hex i σ1 B1 H1 p).2)) (fun i v σ1 H1 H2 hi ⟨B1, p⟩ y => ?_) (fun σ1 H1 ⟨B1, p⟩ => hend σ1 B1 H1 p)
  obtain ⟨x1, x2⟩ := hex i σ1 B1 H1 p
  obtain ⟨B2, d, s2, hd, rd⟩ := hY i H1 v H2 B1 hi x1 x2 y
  obtain ⟨ps, hps, run⟩ := hturn i d σ1 B1 H1 hd p
  exact gt v d B2 H2 _ _ ps s2.bh rd hps fun us r => run B2 H2 us s2 r
/-- while: a word and a measure -/
theorem rb_while (hp : PassesOwn (model X.prog X.w) X.A X.env X.xe) (W : Nat → L2.St → Hp → Hp → Prop) {m0 : Nat} {B0 : Hp} (h0 : W m0 σ B0 H)
    (hturn : ∀ m σ1 B1 H1, W m σ1 B1 H1 → Ex B1 H1 ∧ ∃ t, ET X c σ1 B1 (Eq t) ∧ (t = true → ∀ B2 H2, Step B1 H1 B2 H2 →
      RB X body σ1 H2 { D with nx := fun σ' H' => ∃ m' B3, m' < m ∧ W m' σ' B3 H', ct := fun σ' H' => ∃ m' B3, m' < m ∧ W m' σ' B3 H', bk := fun σ' H' => RB X rest σ' H' D }) ∧ (t = false → ∀ B2 H2, Step B1 H1 B2 H2 → RB X rest σ1 H2 D)) :
    RB X (.While c body [] pos :: rest) σ H D := by
  refine rb_cons (RS.of (ps_while hp cT cB) ⟨fun m σ1 H1 => ∃ B1, W m σ1 B1 H1, ⟨m0, B0, h0⟩, fun m σ1 H1 ⟨B1, w⟩ => ?_⟩)
  obtain ⟨x1, t, ht, h1, h2⟩ := hturn m σ1 B1 H1 w
  refine ht B1 H1 (Ex.refl B1) x1 _ fun b B2 H2 s q => ?_
  subst q
  cases t with
  | true => exact iteT ⟨fun σ' H' => ∃ m' B3, m' < m ∧ W m' σ' B3 H', fun σ' H' ⟨m', B3, l, w'⟩ => ⟨m', l, B3, w'⟩, h1 rfl B2 H2 s⟩
  | false => exact iteF (h2 rfl B2 H2 s)
end

/-! ### defs -/
open PySem.Spec PyProof.Rows
/-- as FnOk, with no repr running around -/
structure FnG (P : Program) (w : World) (K : PySem.W.Frag) (mg : Str → Option Value) (base : Heap) (CX : CXT) (k : Nat) (f : Addr) (fd : FuncData) (ps : List Str) (sp : Sp) : Prop where
  len : ∀ vs H Q E, sp vs H Q E → vs.length = ps.length
  run : ∀ (A : Around) (outer : List Env) (s : Shared) (H : Hp) (args : Args) (us : List Value) (vs : List V) (Q : VK) (E : XK), Room k A → A.guards = some [] → Env0 P w K mg base A outer s H → BindsTo s fd args (ps.zip us) → Vals vs us →
    sp vs H Q E → codeAny (model P w) A (.call (.ref f) args) (CR CX outer P w H s Q E) s
section
variable {P : Program} {w : World} {K : PySem.W.Frag} {mg : Str → Option Value} {base : Heap} {CX : CXT} {k : Nat} {f : Addr} {fd : FuncData} {ps : List Str} {sp sp' : Sp}
theorem FnG.mono {j : Nat} (F : FnG P w K mg base CX j f fd ps sp) (h : j ≤ k) : FnG P w K mg base CX k f fd ps sp :=
  ⟨F.len, fun A outer s H args us vs Q E hr hG => F.run A outer s H args us vs Q E (hr.mono h) hG⟩
theorem FnG.imp (F : FnG P w K mg base CX k f fd ps sp) (h : ∀ vs H Q E, sp' vs H Q E → sp vs H Q E) : FnG P w K mg base CX k f fd ps sp' :=
  ⟨fun vs H Q E q => F.len vs H Q E (h _ _ _ _ q), fun A outer s H args us vs Q E hr hG he hb hv hs => F.run A outer s H args us vs Q E hr hG he hb hv (h _ _ _ _ hs)⟩
/-- a promise that speaks of another abstract heap of the same objects: recast ahead, recast behind -/
theorem guards_deeper {A : Around} {env : Env} (h : A.guards = some []) : (A.deeper env).guards = some [] := h
/-- THE RULE for a def by its body: the body's run from the parameters' values -/
theorem fnG_of {name qual : Str} {params : Arguments} {body : List Stmt} {scope : Scope} {dV kV doc pm cdv ct oc : Value} {an od : Option Addr} {osl : Array (Option Value)} {N : List Str}
    (lk : K.lookup f = some ⟨oc, od, .func (PySem.W.fnOf name qual params body scope dV kV doc pm an cdv ct), osl⟩) (hcd : PySem.W.codeIn K cdv qual = true) (S : FnScope N ps scope) (len : ∀ vs H Q E, sp vs H Q E → vs.length = ps.length)
    (hbody : ∀ (A : Around) (outer : List Env) (s : Shared) (H : Hp) (vs : List V) (Q : VK) (E : XK), Room k (A.deeper (envOfC qual scope s.heap.objs.size f cdv)) → A.guards = some [] → sp vs H Q E →
      RB (cxOf CX P w K mg base N qual scope f cdv A outer s H E) body (start N vs) H { nx := fun _ H' => Q .non H', rt := Q }) :
    FnG P w K mg base CX (k + 1) f (PySem.W.fnOf name qual params body scope dV kV doc pm an cdv ct) ps sp := by
  refine ⟨len, fun A outer s H args us vs Q E room hG env0 bnd rel want => ?_⟩
  have plen := len _ _ _ _ want
  have KX : K.In s.heap := env0.mod.kin.keeps fun b o e => (env0.bs b o e).1
  have lim : s.heap.NoLimit := env0.mod.nolimit.keeps fun b o e => (env0.bs b o e).1
  -- a parameter is a local or a cell
  have kinds : ∀ y ∈ ps.zip us, scope.names.lookup y.1 = some .local ∨ (scope.names.lookup y.1 = some .cell ∧ ((cellsFrom (s.heap.objs.size + 1) scope.names []).lookup y.1).isSome = true) := by
    rintro ⟨n, v⟩ hy
    rcases S.par n (List.of_mem_zip hy).1 with q | q
    · exact Or.inl q
    · exact Or.inr ⟨q, PySem.W.cellsFrom_some _ _ _ (.inl q)⟩
  refine codeAny_call_function room.depth (KX _ _ lk) rfl S.co S.gen rfl (PySem.W.codeRec_of KX hcd) (bnd _ _ _ _ ?_)
  refine wpAny_newFunctionEnv_cells S.kind kinds fun env he s1 x => ?_
  subst he
  refine ⟨lim.keeps x.toInCall.keep, codeAny_func ?_⟩
  have I : Inv (cxOf CX P w K mg base N qual scope f cdv A outer s H E) [] (start N vs) H s1 := inv_start S room.hd env0 plen rel x
  refine wpAny_mono (hbody A outer s H vs Q E (room.deeper _) hG want [] s1 I) (fun fl s' hs => ?_) fun e s' hs => hs
  match fl, hs with
  | .ret u, ⟨v, σ', H', J, rv, q⟩ => exact ⟨v, H', J.os, J.bare, J.base, J.hok, rv, q⟩
  | .next, ⟨σ', H', J, q⟩ => exact ⟨V.non, H', J.os, J.bare, J.base, J.hok, rfl, q⟩
  | .brk, ⟨_, _, _, q⟩ => exact q.elim
  | .cont, ⟨_, _, _, q⟩ => exact q.elim
/-- a def of the text from which nothing is raised -/
theorem Fun.okG {x qual : Str} {st : Stmt} {N : List Str} (F : Fun K x qual st f fd) (S : FnScope N ps (defScope st)) (len : ∀ vs H Q E, sp vs H Q E → vs.length = ps.length)
    (hbody : ∀ (cdv : Value) (A : Around) (outer : List Env) (s : Shared) (H : Hp) (vs : List V) (Q : VK) (E : XK), Room k (A.deeper (envOfC qual (defScope st) s.heap.objs.size f cdv)) → A.guards = some [] → sp vs H Q E →
      RB (cxOf CX0 P w K mg base N qual (defScope st) f cdv A outer s H E).nox (defBody st) (start N vs) H { nx := fun _ H' => Q .non H', rt := Q }) : FnG P w K mg base CX0 (k + 1) f fd ps sp := by
  obtain ⟨oc, od, kV, doc, pm, an, cdv, ct, osl, rfl, lk, hcd⟩ := F.ex
  refine fnG_of lk hcd S len fun A outer s H vs Q E hr hG hsp => ?_
  have h := hbody cdv A outer s H vs Q E hr hG hsp
  -- nothing is raised: the wish about exceptions may be any
  exact RB.of (PSs.nox (cB (X := (cxOf CX0 P w K mg base N qual (defScope st) f cdv A outer s H E).nox))) h
end

section
variable {P : Program} {w : World} {K : PySem.W.Frag} {mg : Str → Option Value} {base : Heap} {k : Nat} {f : Addr} {fd : FuncData} {ps : List Str} {sp : Sp}
/-- a def for which guards don't matter, by its body's run -/
theorem Fun.okB {x qual : Str} {st : Stmt} {N : List Str} (F : Fun K x qual st f fd) (S : FnScope N ps (defScope st)) (len : ∀ vs H Q E, sp vs H Q E → vs.length = ps.length)
    (hbody : ∀ (cdv : Value) (A : Around) (outer : List Env) (s : Shared) (H : Hp) (vs : List V) (Q : VK) (E : XK), Room k (A.deeper (envOfC qual (defScope st) s.heap.objs.size f cdv)) → sp vs H Q E →
      RB (cxOf CX0 P w K mg base N qual (defScope st) f cdv A outer s H E).nox (defBody st) (start N vs) H { nx := fun _ H' => Q .non H', rt := Q }) : FnOk P w K mg base CX0 (k + 1) f fd ps sp :=
  F.ok S len fun cdv A outer s H vs Q E hr h => ⟨_, cB, hbody cdv A outer s H vs Q E hr h⟩
theorem FnOk.g {CX : CXT} (F : FnOk P w K mg base CX k f fd ps sp) : FnG P w K mg base CX k f fd ps sp := ⟨F.len, fun A outer s H args us vs Q E hr _ => F.run A outer s H args us vs Q E hr⟩
end

section
variable {X : Cx} {CX : CXT} {k : Nat} {f C : Addr} {fd : FuncData} {ps : List Str} {sp : Sp} {dvs : List V} {ds : List Value} {E : XK} {x m : Str} {p pos apos : Pos} {e o : Expr} {es : List Expr} {ta : TE} {t : TA}
/-- the callee runs -/
theorem run_fnG {pins : List (Addr × Obj)} {σ : L2.St} {H : Hp} {s : Shared} {Q : VK} {us : List Value} {vs : List V} (F : FnG X.prog X.w X.K X.mg X.base CX k f fd ps sp) (hr : Room k X.A) (hG : X.A.guards = some []) (hb : Binds X.K fd ps ds) (hd : Vals dvs ds) (hx : Passes CX X E)
    (I : Inv X pins σ H s) (r : Vals vs us) (h : sp (vs ++ dvs) H Q E) : wpAny (model X.prog X.w) X.A (call (.ref f) us) (EP X pins σ Q) X.xe s := by
  have rel : Vals (vs ++ dvs) (us ++ ds) := r.append hd
  have ln : (us ++ ds).length = ps.length := rel.length.symm.trans (F.len _ _ _ _ h)
  refine wpAny_call (codeAny_mono (F.run X.A X.stack s H ⟨us, []⟩ (us ++ ds) (vs ++ dvs) Q E hr hG I.env0 (hb s us I.kIn ln) rel h) fun res s' hq => ?_)
  match res, hq with
  | .error e, hq => exact hx pins σ H s e s' I hq
  | .ok (.ret u), hq => exact I.after hq
  | .ok .next, hq => exact hq.elim
  | .ok .brk, hq => exact hq.elim
  | .ok .cont, hq => exact hq.elim
theorem pe_callG (F : FnG X.prog X.w X.K X.mg X.base CX k f fd ps sp) (hr : Room k X.A) (hG : X.A.guards = some []) (hg : Gl X x) (hm : X.mg x = some (.ref f)) (hk : PySem.W.keepIn X.K (.ref f) = true) (hb : Binds X.K fd ps ds) (hd : Vals dvs ds) (hx : Passes CX X E)
    (ha : PA X (e :: es) t) (hdb : (x == ("__debug__" : Str)) = false := by decide) (he : starEach (e :: es) X.env = (false, eval e X.env) :: starEach es X.env := by rfl) (hpl : (backTo pos (starEach es X.env)).any (·.1) = false := by rfl) :
    PE X (.Call (.Name x p) (e :: es) [] pos) (tCall sp dvs E t) := ⟨fun pins s σ H Q I h =>
  wpAny_Call_Name_kw (ld_glob I hg hm (PySem.W.callWith_K (h₀ := X.base) I.ok.mod.kin hk (thn (ha.run pos pins s σ H _ I h) fun us s1 ⟨vs, H1, I1, r, q⟩ => ⟨I1.kIn, run_fnG F hr hG hb hd hx I1 r q⟩) he hpl) hdb)⟩
end
end Fx
set_option Elab.async false
set_option linter.all false
set_option maxRecDepth 100000
set_option maxHeartbeats 2000000
/-! Fx, part 8: what an own class says by __len__, __bool__, __str__, __repr__, __contains__, __getitem__, __eq__. -/
namespace Fx
open PySem L2 PySem.W PyProof.Rows

section
variable {prog : Program} {w : World} {A : Around} {E : Value → Shared → Prop} {s : Shared} {K : PySem.W.Frag} {x C L f : Addr} {h₀ : Heap} {m : Str → Option Value} {ox : Obj} {od : Option Obj} {b tb v : Value}
/-- bool(v), by v's truth -/
theorem call_bool_any {Q : Value → Shared → Prop} (h : wpAny (model prog w) A.in1.in1 (truthy v) (fun k s' => Q (.bool k) s') E s) : wpAny (model prog w) A (call (.type "bool") [v]) Q E s := by
  refine callType_codes (T := "bool") (Bi := Builtin.«object.__init__») (Q₁ := fun r s₁ => ∃ k, r = .bool k ∧ Q r s₁) PySem.F.called_bool (PySem.F.typeCall_bool_1 _) PySem.F.entry_object_init ?_ ?_
  · refine codeAny_of_tree ?_
    show wpAny _ A.in1.in1 (do checkBuiltinCall "bool.__new__" ⟨[.type "bool", v], []⟩; again (.builtin "bool.__new__" ⟨[.type "bool", v], []⟩)) _ _ s
    refine wpAny_bind (wpAny_of_eq (PySem.F.newCall_bool_1 _) (wpAny_pure ⟨plainId_quiet (by decide +kernel) _, codeAny_builtin PySem.F.entry_bool_new ?_⟩))
    rw [Around.under_plainId (by decide +kernel) _]
    have tree : Builtin.«bool.__new__» ⟨[.type "bool", v], []⟩ = (do
      if !(← isType (.type "bool")) then
        rule "bool.__new__.no-type"; raiseError "TypeError" s!"bool.__new__(X): X is not a type object ({← typeNameOf (.type "bool")})"
      if !(← isSubtype (.type "bool") (.type "bool")) then
        rule "bool.__new__.no-subtype"; raiseError "TypeError" s!"bool.__new__({← typeName (.type "bool")}): {← typeName (.type "bool")} is not a subtype of bool"
      PySem.ret (.bool (← truthy v))) := rfl
    rw [tree]
    refine wpAny_bind (wpAny_pure ?_)
    refine wpAny_bind (wpAny_of_eq PySem.F.conv_sub_bool ?_)
    exact wpAny_bind (wpAny_mono h (fun k s₁ hk => wpAny_pure ⟨k, rfl, hk⟩) fun _ _ y => y)
  · rintro obj s₁ ⟨k, rfl, hq⟩
    exact ⟨PySem.typeIs_bool _ _, PySem.F.args_object_init_2 _ _, object_init_meets PySem.F.called_bool.init.lookup PySem.F.called_bool.made (by decide) prog w A.in1 _ s₁ ⟨PySem.typeIs_bool _ _, rfl, hq⟩⟩
/-- x != b where the class says == alone -/
theorem ne_K {Q : Value → Shared → Prop} (hu : A.units + 2 < cLine) (F : Fr h₀ L s.heap m) (X₀ : K.In h₀) (I : InstAt s.heap x ox C od) (hb : Looks (model prog w) s.heap (typeOf b) tb) (hn : notFirst K C tb = true)
    (hne : findIn K (.ref C) "__ne__" = some (some (.builtin "object.__ne__"))) (hm : mroIn K C (.type "object") = some true) (hs : findIn K (.ref C) "__eq__" = some (some (.ref f))) (hf : isFn K (.ref f) = true)
    (h : wpAny (model prog w) A.in1 (call (.ref f) [.ref x, b]) (fun v s' => ∃ k, v = .bool k ∧ Q (.bool (!k)) s') E s) : wpAny (model prog w) A (richCompare .NotEq (.ref x) b) Q E s := by
  have X := X₀.keeps F.keep
  have S : Slot "object" "__ne__" "object.__ne__" := PySem.F.cmp_object.ne
  -- what object.__ne__ does
  have body : ∀ R : Result → Shared → Prop, wpAny (model prog w) A.in1 (call (.ref f) [.ref x, b]) (fun v s' => ∃ k, v = .bool k ∧ R (.ok (.ret (.bool (!k)))) s') (fun e s' => R (.error e) s') s →
      wpAny (model prog w) A.in1 (Builtin.«object.__ne__» ⟨[.ref x, b], []⟩) (fun fin s' => match fin with | .done fl => R (.ok fl) s' | .again c' => c'.quiet = true ∧ codeAny (model prog w) A c' R s') (fun e s' => R (.error e) s') s := by
    intro R hR
    unfold Builtin.«object.__ne__»
    repeat (first
      | with_reducible refine wpAny_cRoomFor (show A.in1.units < cLine from Nat.lt_of_succ_lt hu) ?_
      | (refine wpAny_bind (m := callSpecialIfBound? (.ref x) (Str.ofString "__eq__") [b]) (ifBound_K X I hs hf (wpAny_mono hR (fun r s' hr => by
            obtain ⟨k, rfl, hq⟩ := hr
            repeat (first | exact hq | exact wpAny_pure hq | exact wpAny_truthy_bool hq | (refine wpAny_bind (m := truthy (.bool _)) (wpAny_truthy_bool ?_)) | wp_step)) fun _ _ e => e)))
      | wp_step)
  have one : wpAny (model prog w) A (tryCompare (.ref x) "__ne__" b) (fun r s' => ∃ v, r = some v ∧ Q v s') E s := by
    unfold tryCompare
    have hcall : wpAny (model prog w) A (call (.builtin "object.__ne__") [.ref x, b]) (fun v s' => ∃ k, v = .bool k ∧ Q (.bool k) s') E s := by
      refine wpAny_call (codeAny_call_builtin S.plain PySem.F.cmpEntry_ne (check_slot PySem.F.cmpKind_ne PySem.F.cmpSplit_ne (I.type.andThen (looks_mroIn X hm)) (PySem.F.cmpArgs_ne _ _) ?_))
      refine body (wants (fun v s' => ∃ k, v = .bool k ∧ Q (.bool k) s') E) (wpAny_mono h (fun v s' hv => ?_) fun _ _ e => e)
      obtain ⟨k, rfl, hq⟩ := hv
      exact ⟨k, rfl, !k, rfl, hq⟩
    have special : wpAny (model prog w) A (callSpecialIfBound? (.ref x) "__ne__" [b]) (fun r s' => ∃ k, r = some (.bool k) ∧ Q (.bool k) s') E s := by
      simp only [callSpecialIfBound?, bindSpecialIfBound?]
      refine wpAny_holding (wpAny_bind (wpAny_bind (wpAny_bind (I.type.here ((looks_findIn X hne).here ?_)))))
      simp only [S.bind]
      refine wpAny_bind (wpAny_askSetting (wpAny_ite ?_))
      have fin : wpAny (model prog w) A (call (.builtin "object.__ne__") ([.ref x] ++ [b]) >>= fun v => pure (some v)) (fun r s' => ∃ k, r = some (.bool k) ∧ Q (.bool k) s') E s :=
        wpAny_bind (wpAny_mono hcall (fun v s' h' => by
          obtain ⟨k, rfl, hq⟩ := h'
          exact wpAny_pure ⟨k, rfl, hq⟩) fun _ _ h' => h')
      split
      · exact wpAny_bind (wpAny_pure (wpAny_pure fin))
      · exact wpAny_tryCatch (wpAny_bind (wpAny_pure (wpAny_pure fin)))
    refine wpAny_bind (wpAny_mono special (fun r s' z => ?_) fun _ _ e => e)
    obtain ⟨k, rfl, hq⟩ := z
    exact wpAny_pure ⟨_, rfl, hq⟩
  unfold richCompare
  simp only [oneThing_ref]
  refine wpAny_holding (wpAny_bind (wpAny_cRoomFor (show A.units < cLine by omega) ?_))
  rw [cmpInfo_NotEq]
  dsimp only
  refine wpAny_bind (I.type.here (wpAny_bind (hb.here ?_)))
  split
  · rename_i q
    have e : subIn K tb (.ref C) = some false := by
      rcases Bool.or_eq_true_iff.mp hn with e | e
      · rw [beq_iff_eq.mp e] at q; simp at q
      · exact beq_iff_eq.mp e
    refine wpAny_bind ((looks_subIn X e).here ?_)
    simp only [Bool.false_eq_true, if_false]
    refine wpAny_bind (wpAny_mono one (fun r s' z => ?_) fun _ _ e => e)
    obtain ⟨v, rfl, hq⟩ := z
    exact wpAny_pure hq
  · refine wpAny_bind (wpAny_pure ?_)
    simp only [Bool.false_eq_true, if_false]
    refine wpAny_bind (wpAny_mono one (fun r s' z => ?_) fun _ _ e => e)
    obtain ⟨v, rfl, hq⟩ := z
    exact wpAny_pure hq
end
end Fx
set_option Elab.async false
set_option linter.all false
set_option maxRecDepth 100000
set_option maxHeartbeats 2000000
/-! Fx, part 9: promises by data; calls; what an own class says by its special methods. -/
namespace Fx
open PySem L2
open PySem.Spec PyProof.Rows

/-- from data with pre to data with post (perhaps new); all else stays -/
def spD (K : PySem.W.Frag) (pre : List D → Prop) (post : List D → D → Prop) : Sp := fun vs H Q _ =>
  ∃ ds B, Ex B H ∧ RpL K B ds vs ∧ pre ds ∧ ∀ v d B' H', Step B H B' H' → post ds d → Rp K B' d v → Q v H'
/-- what a body that keeps spD is to hand back -/
def Ret (K : PySem.W.Frag) (B H : Hp) (P : D → Prop) : VK := fun v H' => ∃ d B', Step B H B' H' ∧ P d ∧ Rp K B' d v
theorem Ret.of {K : PySem.W.Frag} {B H B' H' : Hp} {P : D → Prop} {v : V} {d : D} (s : Step B H B' H') (p : P d) (r : Rp K B' d v) : Ret K B H P v H' := ⟨d, B', s, p, r⟩
/-- .. behind a step -/
theorem Ret.step {K : PySem.W.Frag} {B H B' H' H'' : Hp} {P : D → Prop} {v : V} (s : Step B H B' H') (r : Ret K B' H' P v H'') : Ret K B H P v H'' := by
  obtain ⟨d, B2, s2, p, rd⟩ := r
  exact ⟨d, B2, s.trans s2, p, rd⟩
section
variable {P : Program} {w : World} {K : PySem.W.Frag} {mg : Str → Option Value} {base : Heap} {k : Nat} {f : Addr} {fd : FuncData} {ps : List Str} {pre : List D → Prop} {post : List D → D → Prop}
theorem spD_len (h : ∀ ds, pre ds → ds.length = ps.length) : ∀ vs H Q E, spD K pre post vs H Q E → vs.length = ps.length := fun vs H Q E ⟨ds, B, _, r, p, _⟩ => r.length.symm.trans (h ds p)
theorem rpl1 {H : Hp} {d : D} {vs : List V} (r : RpL K H [d] vs) : ∃ v, vs = [v] ∧ Rp K H d v := by
  simp only [RpL] at r
  obtain ⟨v, r1, rfl, h, rfl⟩ := r
  exact ⟨v, rfl, h⟩
theorem rpl2 {H : Hp} {d e : D} {vs : List V} (r : RpL K H [d, e] vs) : ∃ v u, vs = [v, u] ∧ Rp K H d v ∧ Rp K H e u := by
  simp only [RpL] at r
  obtain ⟨v, r1, rfl, h, u, r2, rfl, h2, rfl⟩ := r
  exact ⟨v, u, rfl, h, h2⟩
theorem rpl3 {H : Hp} {d e g : D} {vs : List V} (r : RpL K H [d, e, g] vs) : ∃ v u z, vs = [v, u, z] ∧ Rp K H d v ∧ Rp K H e u ∧ Rp K H g z := by
  simp only [RpL] at r
  obtain ⟨v, r1, rfl, h, u, r2, rfl, h2, z, r3, rfl, h3, rfl⟩ := r
  exact ⟨v, u, z, rfl, h, h2, h3⟩
theorem rpl4 {H : Hp} {d e g j : D} {vs : List V} (r : RpL K H [d, e, g, j] vs) : ∃ v u z y, vs = [v, u, z, y] ∧ Rp K H d v ∧ Rp K H e u ∧ Rp K H g z ∧ Rp K H j y := by
  simp only [RpL] at r
  obtain ⟨v, r1, rfl, h, u, r2, rfl, h2, z, r3, rfl, h3, y, r4, rfl, h4, rfl⟩ := r
  exact ⟨v, u, z, y, rfl, h, h2, h3, h4⟩
/-- a def by its body, for data -/
theorem Fun.okD {x qual : Str} {st : Stmt} {N : List Str} (F : Fun K x qual st f fd) (S : FnScope N ps (defScope st)) (len : ∀ ds, pre ds → ds.length = ps.length)
    (hbody : ∀ (cdv : Value) (A : Around) (outer : List Env) (s : Shared) (E : XK) (ds : List D) (vs : List V) (B H : Hp), Room k (A.deeper (envOfC qual (defScope st) s.heap.objs.size f cdv)) → Ex B H → RpL K B ds vs → pre ds →
      RB (cxOf CX0 P w K mg base N qual (defScope st) f cdv A outer s H E).nox (defBody st) (start N vs) H { nx := fun _ H' => Ret K B H (post ds) .non H', rt := Ret K B H (post ds) }) : FnOk P w K mg base CX0 (k + 1) f fd ps (spD K pre post) :=
  Fun.okB F S (spD_len len) fun cdv A outer s H vs Q E hr ⟨ds, B, hx, r, hp, kk⟩ =>
    rb_imp (hbody cdv A outer s E ds vs B H hr hx r hp) (fun _ H' ⟨d, B', s, q, z⟩ => kk _ d B' H' s q z) (fun v H' ⟨d, B', s, q, z⟩ => kk v d B' H' s q z) (fun _ _ z => z) (fun _ _ z => z)
/-- .. with the guards told -/
theorem Fun.okGD {x qual : Str} {st : Stmt} {N : List Str} (F : Fun K x qual st f fd) (S : FnScope N ps (defScope st)) (len : ∀ ds, pre ds → ds.length = ps.length)
    (hbody : ∀ (cdv : Value) (A : Around) (outer : List Env) (s : Shared) (E : XK) (ds : List D) (vs : List V) (B H : Hp), Room k (A.deeper (envOfC qual (defScope st) s.heap.objs.size f cdv)) → A.guards = some [] → Ex B H → RpL K B ds vs → pre ds →
      RB (cxOf CX0 P w K mg base N qual (defScope st) f cdv A outer s H E).nox (defBody st) (start N vs) H { nx := fun _ H' => Ret K B H (post ds) .non H', rt := Ret K B H (post ds) }) : FnG P w K mg base CX0 (k + 1) f fd ps (spD K pre post) :=
  Fun.okG F S (spD_len len) fun cdv A outer s H vs Q E hr hG ⟨ds, B, hx, r, hp, kk⟩ =>
    rb_imp (hbody cdv A outer s E ds vs B H hr hG hx r hp) (fun _ H' ⟨d, B', s, q, z⟩ => kk _ d B' H' s q z) (fun v H' ⟨d, B', s, q, z⟩ => kk v d B' H' s q z) (fun _ _ z => z) (fun _ _ z => z)
end

section
variable {X : Cx} {k : Nat} {f C : Addr} {fd : FuncData} {ps : List Str} {pre : List D → Prop} {post : List D → D → Prop} {x m : Str} {p pos apos : Pos} {e o : Expr} {es : List Expr} {σ : L2.St} {B H : Hp} {P Po : D → Prop} {PL : List D → Prop}
/-- the callee runs, here or a little deeper -/
theorem runD {A' : Around} {pins : List (Addr × Obj)} {s : Shared} {us : List Value} {vs : List V} {ds : List D} {E' : Value → Shared → Prop} (F : FnOk X.prog X.w X.K X.mg X.base CX0 k f fd ps (spD X.K pre post)) (hr : Room k A') (hfr : A'.frames = X.A.frames) (hb : Binds X.K fd ps [])
    (I : Inv X pins σ H s) (rv : Vals vs us) (hx : Ex B H) (r : RpL X.K B ds vs) (hp : pre ds) :
    wpAny (model X.prog X.w) A' (call (.ref f) us) (fun u s' => ∃ v d B' H', Inv X pins σ H' s' ∧ RelV v u ∧ Step B H B' H' ∧ post ds d ∧ Rp X.K B' d v) E' s := by
  have e0 : Env0 X.prog X.w X.K X.mg X.base A' X.stack s H := by
    have e := I.env0
    exact ⟨hfr.trans e.frames, e.mod, e.bs, e.bsz, e.funs, e.frf, e.hok, e.bare⟩
  have want : spD X.K pre post vs H (fun v H' => ∃ d B', Step B H B' H' ∧ post ds d ∧ Rp X.K B' d v) E0 := ⟨ds, B, hx, r, hp, fun v d B' H' s q z => ⟨d, B', s, q, z⟩⟩
  have hl : us.length = ps.length := rv.length.symm.trans (F.len _ _ _ _ want)
  refine wpAny_call (codeAny_mono (F.run A' X.stack s H ⟨us, []⟩ us vs _ E0 hr e0 (by
    have z := hb s us I.kIn (by simpa using hl)
    simpa using z) rv want) fun res s' hq => ?_)
  match res, hq with
  | .error e, hq => exact hq.elim
  | .ok (.ret u), hq =>
    obtain ⟨v, H', I', r', d, B', st, q, z⟩ := I.after hq
    exact ⟨v, d, B', H', I', r', st, q, z⟩
  | .ok .next, hq => exact hq.elim
  | .ok .brk, hq => exact hq.elim
  | .ok .cont, hq => exact hq.elim
theorem runG {A' : Around} {pins : List (Addr × Obj)} {s : Shared} {us : List Value} {vs : List V} {ds : List D} {E' : Value → Shared → Prop} (F : FnG X.prog X.w X.K X.mg X.base CX0 k f fd ps (spD X.K pre post)) (hr : Room k A') (hG : A'.guards = some []) (hfr : A'.frames = X.A.frames) (hb : Binds X.K fd ps [])
    (I : Inv X pins σ H s) (rv : Vals vs us) (hx : Ex B H) (r : RpL X.K B ds vs) (hp : pre ds) :
    wpAny (model X.prog X.w) A' (call (.ref f) us) (fun u s' => ∃ v d B' H', Inv X pins σ H' s' ∧ RelV v u ∧ Step B H B' H' ∧ post ds d ∧ Rp X.K B' d v) E' s := by
  have e0 : Env0 X.prog X.w X.K X.mg X.base A' X.stack s H := by
    have e := I.env0
    exact ⟨hfr.trans e.frames, e.mod, e.bs, e.bsz, e.funs, e.frf, e.hok, e.bare⟩
  have want : spD X.K pre post vs H (fun v H' => ∃ d B', Step B H B' H' ∧ post ds d ∧ Rp X.K B' d v) E0 := ⟨ds, B, hx, r, hp, fun v d B' H' s q z => ⟨d, B', s, q, z⟩⟩
  have hl : us.length = ps.length := rv.length.symm.trans (F.len _ _ _ _ want)
  refine wpAny_call (codeAny_mono (F.run A' X.stack s H ⟨us, []⟩ us vs _ E0 hr hG e0 (by
    have z := hb s us I.kIn (by simpa using hl)
    simpa using z) rv want) fun res s' hq => ?_)
  match res, hq with
  | .error e, hq => exact hq.elim
  | .ok (.ret u), hq =>
    obtain ⟨v, H', I', r', d, B', st, q, z⟩ := I.after hq
    exact ⟨v, d, B', H', I', r', st, q, z⟩
  | .ok .next, hq => exact hq.elim
  | .ok .brk, hq => exact hq.elim
  | .ok .cont, hq => exact hq.elim

/-- f(e, ..) -/
theorem en_call (F : FnG X.prog X.w X.K X.mg X.base CX0 k f fd ps (spD X.K pre post)) (hr : Room k X.A) (hG : X.A.guards = some []) (hm : X.mg x = some (.ref f)) (hk : PySem.W.keepIn X.K (.ref f) = true) (hb : Binds X.K fd ps [])
    (ha : EA X (e :: es) σ B PL) (hp : ∀ ds, PL ds → pre ds) (hg : Gl X x := by rfl) (hdb : (x == ("__debug__" : Str)) = false := by decide) (he : starEach (e :: es) X.env = (false, eval e X.env) :: starEach es X.env := by rfl) (hpl : (backTo pos (starEach es X.env)).any (·.1) = false := by rfl) :
    EN X (.Call (.Name x p) (e :: es) [] pos) σ B (fun d => ∃ ds, PL ds ∧ post ds d) := fun B1 H e1 e2 Q k =>
  RE.of (pe_callG (E := E0) F hr hG hg hm hk hb .nil pass0 cA hdb he hpl) (ha B1 H e1 e2 _ fun vs ds B' H' s pl r => by
    rw [List.append_nil]
    exact ⟨ds, B', s.bh, r, hp ds pl, fun v d B'' H'' s' q z => k v d B'' H'' (s.trans s') ⟨ds, pl, q⟩ z⟩)
theorem ed_call {ds : List D} (F : FnG X.prog X.w X.K X.mg X.base CX0 k f fd ps (spD X.K pre post)) (hr : Room k X.A) (hG : X.A.guards = some []) (hm : X.mg x = some (.ref f)) (hk : PySem.W.keepIn X.K (.ref f) = true) (hb : Binds X.K fd ps [])
    (ha : EA X (e :: es) σ B (Eq ds)) (hp : pre ds) (hg : Gl X x := by rfl) (hdb : (x == ("__debug__" : Str)) = false := by decide) (he : starEach (e :: es) X.env = (false, eval e X.env) :: starEach es X.env := by rfl) (hpl : (backTo pos (starEach es X.env)).any (·.1) = false := by rfl) :
    EN X (.Call (.Name x p) (e :: es) [] pos) σ B (post ds) := (en_call F hr hG hm hk hb ha (fun _ q => q ▸ hp) hg hdb he hpl).imp fun d ⟨ds', q, z⟩ => q ▸ z

/-! ### instances that don't change -/
theorem RpF.lookup {K : PySem.W.Frag} {H : Hp} : ∀ {fs : List (Str × D)} {gs : List (Str × V)} {n : Str}, RpF K H fs gs → match fs.lookup n with | some d => ∃ v, gs.lookup n = some v ∧ Rp K H d v | none => gs.lookup n = none
  | [], gs, n, r => by simp only [RpF] at r; subst r; rfl
  | (g, d) :: fs, gs, n, r => by
    simp only [RpF] at r
    obtain ⟨v, t, rfl, h1, h2⟩ := r
    have ih := RpF.lookup (n := n) h2
    by_cases e : n = g
    · subst e
      simp only [List.lookup_cons, beq_self_eq_true]
      exact ⟨v, rfl, h1⟩
    · have e' : (n == g) = false := beq_eq_false_iff_ne.mpr e
      simp only [List.lookup_cons, e']
      exact ih
theorem RpF.some {K : PySem.W.Frag} {H : Hp} {fs : List (Str × D)} {gs : List (Str × V)} {n : Str} {d : D} (r : RpF K H fs gs) (h : fs.lookup n = some d) : ∃ v, gs.lookup n = some v ∧ Rp K H d v := by
  have q := r.lookup (n := n)
  rw [h] at q; exact q
theorem RpF.none {K : PySem.W.Frag} {H : Hp} {fs : List (Str × D)} {gs : List (Str × V)} {n : Str} (r : RpF K H fs gs) (h : fs.lookup n = none) : gs.lookup n = none := by
  have q := r.lookup (n := n)
  rw [h] at q; exact q
theorem Rp.obj {K : PySem.W.Frag} {H : Hp} {fs : List (Str × D)} {v : V} : Rp K H (.obj C fs) v ↔ ∃ a dx gs, v = .ref a ∧ H a = some (.ins C dx gs) ∧ RpF K H fs gs := by simp only [Rp]
variable {fs : List (Str × D)} {d : D}
/-- o.n -/
theorem en_fld (c : Cls X.K C) (hn : NoAttr X.K C m) (ho : EN X o σ B (Eq (.obj C fs))) (hl : fs.lookup m = some d) (hb : attributeBase o m X.env (eval o X.env) = eval o X.env := by rfl) : EN X (.Attribute o m pos) σ B (Eq d) := fun B1 H e1 e2 Q k =>
  RE.of (pe_fld cE hb) (ho B1 H e1 e2 _ fun v d' B' H' s q r => by
    subst q
    obtain ⟨a, dx, gs, rfl, h1, h2⟩ := Rp.obj.mp r
    obtain ⟨u, hu, ru⟩ := h2.some hl
    exact ⟨a, C, dx, gs, u, rfl, s.bh _ _ h1, c, hn, hu, k u d B' H' s rfl ru⟩)
/-- o.n, a property -/
theorem en_prop {p0 : Addr} (c : Cls X.K C) (hp : PropOf X.K C m p0 f) (F : FnOk X.prog X.w X.K X.mg X.base CX0 k f fd ps (spD X.K pre post)) (hr : Room (k + 1) X.A) (hb : Binds X.K fd ps []) (ho : EN X o σ B (Eq (.obj C fs))) (hpre : pre [.obj C fs])
    (hab : attributeBase o m X.env (eval o X.env) = eval o X.env := by rfl) : EN X (.Attribute o m pos) σ B (post [.obj C fs]) := fun B1 H e1 e2 Q k =>
  RE.of (pe_prop (E := E0) cE c hp F hr hb .nil pass0 hab) (ho B1 H e1 e2 _ fun v d' B' H' s q r => by
    subst q
    have r' := r
    obtain ⟨a, dx, gs, rfl, h1, h2⟩ := Rp.obj.mp r'
    exact ⟨a, dx, gs, rfl, s.bh _ _ h1, [.obj C fs], B', s.bh, RpL.cons r RpL.nil, hpre, fun v d B'' H'' s' q z => k v d B'' H'' (s.trans s') q z⟩)
/-- o.m(e, ..) -/
theorem en_meth {pl : Sem Bool} {ds : List D} (c : Cls X.K C) (hm : Meth X.K C m f) (F : FnOk X.prog X.w X.K X.mg X.base CX0 k f fd ps (spD X.K pre post)) (hr : Room k X.A) (hb : Binds X.K fd ps []) (ho : EN X o σ B (Eq (.obj C fs))) (hl : fs.lookup m = none)
    (ha : EA X (e :: es) σ B (Eq ds)) (hpre : pre (.obj C fs :: ds)) (hst : starEach (e :: es) X.env = (false, eval e X.env) :: starEach es X.env := by rfl) (hpl : (backTo pos (starEach es X.env)).any (·.1) = false := by rfl)
    (ht : eval (.Call (.Attribute o m apos) (e :: es) [] pos) X.env = (do
      let ov ← eval o X.env
      standAt apos.atName
      let (f, first) ← holding [ov] (getMethod ov m pl)
      callWith pos f first (backTo pos (starEach (e :: es) X.env)) (backToKw pos (keywordEach [] X.env))) := by rfl) :
    EN X (.Call (.Attribute o m apos) (e :: es) [] pos) σ B (post (.obj C fs :: ds)) := fun B1 H e1 e2 Q k =>
  RE.of (pe_meth (E := E0) cE c hm F hr hb .nil pass0 cA hst hpl ht) (ho B1 H e1 e2 _ fun v d' B' H' s q r => by
    subst q
    have r' := r
    obtain ⟨a, dx, gs, rfl, h1, h2⟩ := Rp.obj.mp r'
    refine ⟨a, dx, gs, rfl, s.bh _ _ h1, h2.none hl, ha B' H' (e1.trans s.b) s.bh _ fun vs ds' B'' H'' s' q ra => ?_⟩
    subst q
    rw [List.append_nil]
    exact ⟨_, B'', s'.bh, RpL.cons (r.mono s'.b) ra, hpre, fun v d B3 H3 s3 q z => k v d B3 H3 ((s.trans s').trans s3) q z⟩)

/-! ### special methods -/
/-- the class's own method under a special name -/
structure Spc (K : PySem.W.Frag) (C : Addr) (n : Str) (f : Addr) : Prop where
  at_ : PySem.W.findIn K (.ref C) n = some (some (.ref f))
  fn : PySem.W.isFn K (.ref f) = true
theorem ins_at {pins : List (Addr × Obj)} {s : Shared} {a dx : Addr} {gs : List (Str × V)} (I : Inv X pins σ H s) (h : H a = some (.ins C dx gs)) : ∃ ox od, PySem.W.InstAt s.heap a ox C (some od) := by
  obtain ⟨mA, O, _⟩ := ins_get I.hok h
  obtain ⟨od, J, _⟩ := O.look
  exact ⟨_, od, J⟩
/-- len(o) -/
theorem cd_lenO {n : List (Str × D) → Nat} (S : Spc X.K C "__len__" f) (F : FnOk X.prog X.w X.K X.mg X.base CX0 k f fd ps (spD X.K pre post)) (hr : Room (k + 1) X.A) (hb : Binds X.K fd ps []) (hpre : pre [.obj C fs]) (hpost : ∀ d, post [.obj C fs] d → d = .int (n fs : Nat)) (hn : n fs < 2 ^ 63) :
    CD X (.builtin "len") [.obj C fs] (Eq (.int (n fs : Nat))) :=
  ⟨fun vs H Q => ∃ B, Ex B H ∧ RpL X.K B [.obj C fs] vs ∧ ∀ z d B' H', Step B H B' H' → D.int (n fs : Nat) = d → Rp X.K B' d z → Q z H', fun pins s σ H vs us Q I rv ⟨B, hx, r, kk⟩ => by
    obtain ⟨v, rfl, ro⟩ := rpl1 r
    obtain ⟨a, dx, gs, rfl, h1, h2⟩ := Rp.obj.mp ro
    obtain ⟨u, rfl, ru⟩ := vals1 rv
    cases ru
    obtain ⟨ox, od, J⟩ := ins_at I (hx _ _ h1)
    obtain ⟨mm, hF⟩ := I.fr
    refine PySem.W.len_K hF I.ok.mod.kin J S.at_ S.fn (wpAny_mono (runD F hr.in1 rfl hb I rv hx r hpre) (fun u s' ⟨v, d, B', H', I', r', st, q, z⟩ => ?_) fun _ _ e => e)
    have q' := hpost d q
    subst q'
    cases Rp.int.mp z
    obtain ⟨t, rfl⟩ := r'
    exact ⟨⟨by omega, by omega⟩, .int _, H', I'.tok _, ⟨_, rfl⟩, kk _ _ B' H' st rfl (Rp.int.mpr rfl)⟩, fun vs B H Q hx r kk => ⟨B, hx, r, kk⟩⟩
/-- bool(o) -/
theorem cd_boolO {t : List (Str × D) → Bool} (S : Spc X.K C "__bool__" f) (F : FnOk X.prog X.w X.K X.mg X.base CX0 k f fd ps (spD X.K pre post)) (hr : Room (k + 2) X.A) (hb : Binds X.K fd ps []) (hpre : pre [.obj C fs]) (hpost : ∀ d, post [.obj C fs] d → d = .bl (t fs)) :
    CD X (.type "bool") [.obj C fs] (Eq (.bl (t fs))) :=
  ⟨fun vs H Q => ∃ B, Ex B H ∧ RpL X.K B [.obj C fs] vs ∧ ∀ z d B' H', Step B H B' H' → D.bl (t fs) = d → Rp X.K B' d z → Q z H', fun pins s σ H vs us Q I rv ⟨B, hx, r, kk⟩ => by
    obtain ⟨v, rfl, ro⟩ := rpl1 r
    obtain ⟨a, dx, gs, rfl, h1, h2⟩ := Rp.obj.mp ro
    obtain ⟨u, rfl, ru⟩ := vals1 rv
    cases ru
    obtain ⟨ox, od, J⟩ := ins_at I (hx _ _ h1)
    obtain ⟨mm, hF⟩ := I.fr
    refine call_bool_any (PySem.W.truthy_K hF I.ok.mod.kin J S.at_ S.fn (wpAny_mono (runD F hr.in1.in1 rfl hb I rv hx r hpre) (fun u s' ⟨v, d, B', H', I', r', st, q, z⟩ => ?_) fun _ _ e => e))
    have q' := hpost d q
    subst q'
    cases Rp.bl.mp z
    cases r'
    exact ⟨.bl _, H', I', rfl, kk _ _ B' H' st rfl (Rp.bl.mpr rfl)⟩, fun vs B H Q hx r kk => ⟨B, hx, r, kk⟩⟩
/-- str(o) -/
theorem cd_strO {t : List (Str × D) → Str} (S : Spc X.K C "__str__" f) (F : FnOk X.prog X.w X.K X.mg X.base CX0 k f fd ps (spD X.K pre post)) (hr : Room (k + 2) X.A) (hb : Binds X.K fd ps []) (hpre : pre [.obj C fs]) (hpost : ∀ d, post [.obj C fs] d → d = .str (t fs)) :
    CD X (.type "str") [.obj C fs] (Eq (.str (t fs))) :=
  ⟨fun vs H Q => ∃ B, Ex B H ∧ RpL X.K B [.obj C fs] vs ∧ ∀ z d B' H', Step B H B' H' → D.str (t fs) = d → Rp X.K B' d z → Q z H', fun pins s σ H vs us Q I rv ⟨B, hx, r, kk⟩ => by
    obtain ⟨v, rfl, ro⟩ := rpl1 r
    obtain ⟨a, dx, gs, rfl, h1, h2⟩ := Rp.obj.mp ro
    obtain ⟨u, rfl, ru⟩ := vals1 rv
    cases ru
    obtain ⟨ox, od, J⟩ := ins_at I (hx _ _ h1)
    refine PySem.W.kso_call hr.in1.in1.units0 I.kIn J S.at_ S.fn (wpAny_mono (runD F hr.in1.in1 rfl hb I rv hx r hpre) (fun u s' ⟨v, d, B', H', I', r', st, q, z⟩ => ?_) fun _ _ e => e)
    have q' := hpost d q
    subst q'
    cases Rp.str.mp z
    obtain ⟨tk, rfl⟩ := r'
    exact ⟨.str _, H', I', ⟨_, rfl⟩, kk _ _ B' H' st rfl (Rp.str.mpr rfl)⟩, fun vs B H Q hx r kk => ⟨B, hx, r, kk⟩⟩
/-- repr(o) -/
theorem cd_reprO {t : List (Str × D) → Str} (S : Spc X.K C "__repr__" f) (F : FnG X.prog X.w X.K X.mg X.base CX0 k f fd ps (spD X.K pre post)) (hr : Room (k + 1) X.A) (hG : X.A.guards = some []) (hb : Binds X.K fd ps []) (hpre : pre [.obj C fs]) (hpost : ∀ d, post [.obj C fs] d → d = .str (t fs)) :
    CD X (.builtin "repr") [.obj C fs] (Eq (.str (t fs))) :=
  ⟨fun vs H Q => ∃ B, Ex B H ∧ RpL X.K B [.obj C fs] vs ∧ ∀ z d B' H', Step B H B' H' → D.str (t fs) = d → Rp X.K B' d z → Q z H', fun pins s σ H vs us Q I rv ⟨B, hx, r, kk⟩ => by
    obtain ⟨v, rfl, ro⟩ := rpl1 r
    obtain ⟨a, dx, gs, rfl, h1, h2⟩ := Rp.obj.mp ro
    obtain ⟨u, rfl, ru⟩ := vals1 rv
    cases ru
    obtain ⟨ox, od, J⟩ := ins_at I (hx _ _ h1)
    obtain ⟨mm, hF⟩ := I.fr
    refine PySem.W.repr_K hr.in1.units0 hF I.ok.mod.kin J S.at_ S.fn (wpAny_mono (runG F hr.in1 hG rfl hb I rv hx r hpre) (fun u s' ⟨v, d, B', H', I', r', st, q, z⟩ => ?_) fun _ _ e => e)
    have q' := hpost d q
    subst q'
    cases Rp.str.mp z
    obtain ⟨tk, rfl⟩ := r'
    exact ⟨.str _, H', I', ⟨_, rfl⟩, kk _ _ B' H' st rfl (Rp.str.mpr rfl)⟩, fun vs B H Q hx r kk => ⟨B, hx, r, kk⟩⟩
/-- y in o -/
theorem od_inO {y : D} {t : Bool} (S : Spc X.K C "__contains__" f) (F : FnOk X.prog X.w X.K X.mg X.base CX0 k f fd ps (spD X.K pre post)) (hr : Room k X.A) (hb : Binds X.K fd ps []) (hpre : pre [.obj C fs, y]) (hpost : ∀ d, post [.obj C fs, y] d → d = .bl t) :
    OD X (compareOp .In) y (.obj C fs) (Eq (.bl t)) :=
  ⟨fun v u H Q => ∃ B, Ex B H ∧ Rp X.K B y v ∧ Rp X.K B (.obj C fs) u ∧ ∀ z d B' H', Step B H B' H' → D.bl t = d → Rp X.K B' d z → Q z H', fun pins s σ H v u vv uu Q I rv ru ⟨B, hx, ry, ro, kk⟩ => by
    obtain ⟨a, dx, gs, rfl, h1, h2⟩ := Rp.obj.mp ro
    cases ru
    obtain ⟨ox, od, J⟩ := ins_at I (hx _ _ h1)
    obtain ⟨mm, hF⟩ := I.fr
    refine PySem.W.in_K hF I.ok.mod.kin J S.at_ S.fn (wpAny_mono (runD F hr rfl hb I (vs := [.ref a, v]) (.cons rfl (.cons rv .nil)) hx (RpL.cons ro (RpL.cons ry RpL.nil)) hpre) (fun u s' ⟨v, d, B', H', I', r', st, q, z⟩ => ?_) fun _ _ e => e)
    have q' := hpost d q
    subst q'
    cases Rp.bl.mp z
    cases r'
    exact wpAny_truthy_bool ⟨.bl _, H', I', rfl, kk _ _ B' H' st rfl (Rp.bl.mpr rfl)⟩, fun v u B H Q hx r1 r2 kk => ⟨B, hx, r1, r2, kk⟩⟩
/-- what stands behind the == may be: its type is known, and it is not first asked -/
def Other (X : Cx) (C : Addr) (y : D) : Prop := ∀ {pins : List (Addr × Obj)} {σ : L2.St} {H B : Hp} {s : Shared} {u : V} {uu : Value}, Inv X pins σ H s → Ex B H → Rp X.K B y u → RelV u uu → ∃ tb, PySem.W.Looks (model X.prog X.w) s.heap (typeOf uu) tb ∧ PySem.W.notFirst X.K C tb = true
theorem od_eqO {y : D} {t : Bool} (S : Spc X.K C "__eq__" f) (F : FnOk X.prog X.w X.K X.mg X.base CX0 k f fd ps (spD X.K pre post)) (hr : Room k X.A) (hb : Binds X.K fd ps []) (ho : Other X C y) (hpre : pre [.obj C fs, y]) (hpost : ∀ d, post [.obj C fs, y] d → d = .bl t) :
    OD X (compareOp .Eq) (.obj C fs) y (Eq (.bl t)) :=
  ⟨fun v u H Q => ∃ B, Ex B H ∧ Rp X.K B (.obj C fs) v ∧ Rp X.K B y u ∧ ∀ z d B' H', Step B H B' H' → D.bl t = d → Rp X.K B' d z → Q z H', fun pins s σ H v u vv uu Q I rv ru ⟨B, hx, ro, ry, kk⟩ => by
    obtain ⟨a, dx, gs, rfl, h1, h2⟩ := Rp.obj.mp ro
    cases rv
    obtain ⟨ox, od, J⟩ := ins_at I (hx _ _ h1)
    obtain ⟨mm, hF⟩ := I.fr
    obtain ⟨tb, L, nf⟩ := ho I hx ry ru
    show wpAny (model X.prog X.w) X.A (richCompare .Eq _ _) _ _ _
    refine PySem.W.cmp_K (op := .Eq) hr.units0 hF I.ok.mod.kin J L nf S.at_ S.fn (wpAny_mono (runD F hr rfl hb I (vs := [.ref a, u]) (.cons rfl (.cons ru .nil)) hx (RpL.cons ro (RpL.cons ry RpL.nil)) hpre) (fun u s' ⟨v, d, B', H', I', r', st, q, z⟩ => ?_) fun _ _ e => e)
    have q' := hpost d q
    subst q'
    cases Rp.bl.mp z
    cases r'
    exact ⟨.bl _, H', I', rfl, kk _ _ B' H' st rfl (Rp.bl.mpr rfl)⟩, fun v u B H Q hx r1 r2 kk => ⟨B, hx, r1, r2, kk⟩⟩
theorem od_neO {y : D} {t : Bool} (S : Spc X.K C "__eq__" f) (hne : PySem.W.findIn X.K (.ref C) "__ne__" = some (some (.builtin "object.__ne__"))) (hmr : PySem.W.mroIn X.K C (.type "object") = some true) (F : FnOk X.prog X.w X.K X.mg X.base CX0 k f fd ps (spD X.K pre post)) (hr : Room (k + 1) X.A) (hb : Binds X.K fd ps [])
    (ho : Other X C y) (hpre : pre [.obj C fs, y]) (hpost : ∀ d, post [.obj C fs, y] d → d = .bl t) : OD X (compareOp .NotEq) (.obj C fs) y (Eq (.bl (!t))) :=
  ⟨fun v u H Q => ∃ B, Ex B H ∧ Rp X.K B (.obj C fs) v ∧ Rp X.K B y u ∧ ∀ z d B' H', Step B H B' H' → D.bl (!t) = d → Rp X.K B' d z → Q z H', fun pins s σ H v u vv uu Q I rv ru ⟨B, hx, ro, ry, kk⟩ => by
    obtain ⟨a, dx, gs, rfl, h1, h2⟩ := Rp.obj.mp ro
    cases rv
    obtain ⟨ox, od, J⟩ := ins_at I (hx _ _ h1)
    obtain ⟨mm, hF⟩ := I.fr
    obtain ⟨tb, L, nf⟩ := ho I hx ry ru
    show wpAny (model X.prog X.w) X.A (richCompare .NotEq _ _) _ _ _
    refine ne_K (by have := hr.units; omega) hF I.ok.mod.kin J L nf hne hmr S.at_ S.fn (wpAny_mono (runD F hr.in1 rfl hb I (vs := [.ref a, u]) (.cons rfl (.cons ru .nil)) hx (RpL.cons ro (RpL.cons ry RpL.nil)) hpre) (fun u s' ⟨v, d, B', H', I', r', st, q, z⟩ => ?_) fun _ _ e => e)
    have q' := hpost d q
    subst q'
    cases Rp.bl.mp z
    cases r'
    exact ⟨t, rfl, .bl _, H', I', rfl, kk _ _ B' H' st rfl (Rp.bl.mpr rfl)⟩, fun v u B H Q hx r1 r2 kk => ⟨B, hx, r1, r2, kk⟩⟩
end
end Fx
set_option Elab.async false
set_option linter.all false
set_option maxRecDepth 100000
set_option maxHeartbeats 2000000
/-! Fx, part 10: built-ins by data. -/
namespace Fx
open PySem L2
open PySem.Spec PyProof.Rows

section
variable {X : Cx} {σ : L2.St} {B H : Hp} {x : Str} {p pos apos : Pos} {e o : Expr} {es : List Expr} {P : D → Prop} {PL : List D → Prop}
/-- a built-in class by its name -/
theorem en_ty {n : String} (hm : X.mg x = none) (hv : bootBuiltins x = some (.type n)) (hg : Gl X x := by rfl) (hn : x ≠ "__name__" := by decide) (hd : (x == ("__debug__" : Str)) = false := by decide) : EN X (.Name x pos) σ B (Eq (.ty n)) := fun B1 H _ e2 Q k =>
  RE.of (pe_bltn hg hm hv (v := .ty n) rfl hn hd) (k _ _ B1 H (Step.refl e2) rfl (by simp only [Rp]))
theorem en_cls {C : Addr} (hm : X.mg x = some (.ref C)) (hg : Gl X x := by rfl) (hd : (x == ("__debug__" : Str)) = false := by decide) : EN X (.Name x pos) σ B (Eq (.ref C)) :=
  en_glob (v := .ref C) hm rfl (by simp only [Rp]) hg hd
theorem en_gint {i : Int} {t : Tok} (hm : X.mg x = some (.int i t)) (hg : Gl X x := by rfl) (hd : (x == ("__debug__" : Str)) = false := by decide) : EN X (.Name x pos) σ B (Eq (.int i)) :=
  en_glob (v := .int i) hm ⟨t, rfl⟩ (by simp only [Rp]) hg hd
theorem en_gstr {i : Str} {t : Tok} (hm : X.mg x = some (.str i t)) (hg : Gl X x := by rfl) (hd : (x == ("__debug__" : Str)) = false := by decide) : EN X (.Name x pos) σ B (Eq (.str i)) :=
  en_glob (v := .str i) hm ⟨t, rfl⟩ (by simp only [Rp]) hg hd

/-! ### len, list, tuple, int, abs, max, min, all, any -/
theorem cd_of {f : Value} {ds : List D} {r : List V → Hp → VK → Prop} (h : CallR X f r) (k : ∀ vs B H (Q : VK), Ex B H → RpL X.K B ds vs → (∀ z d B' H', Step B H B' H' → P d → Rp X.K B' d z → Q z H') → r vs H Q) : CD X f ds P := ⟨r, h, k⟩
theorem cd_lenL {ds : List D} : CD X (.builtin "len") [.lst ds] (Eq (.int (ds.length : Nat))) := cd_of call_len_seq fun vs B H Q hx r k => by
  obtain ⟨v, rfl, rv⟩ := rpl1 r
  obtain ⟨a, xs, rfl, h1, h2⟩ := Rp.lst.mp rv
  exact ⟨a, xs, rfl, .inl (SqL.of (hx _ _ h1)), k _ _ B H (Step.refl hx) rfl (Rp.int.mpr (by rw [h2.length]))⟩
theorem cd_lenT {ds : List D} : CD X (.builtin "len") [.tup ds] (Eq (.int (ds.length : Nat))) := cd_of call_len_seq fun vs B H Q hx r k => by
  obtain ⟨v, rfl, rv⟩ := rpl1 r
  obtain ⟨a, xs, rfl, h1, h2⟩ := Rp.tup.mp rv
  exact ⟨a, xs, rfl, .inr (hx.t h1), k _ _ B H (Step.refl hx) rfl (Rp.int.mpr (by rw [h2.length]))⟩
theorem cd_lenSc {ns : List Int} : CD X (.builtin "len") [.scr ns] (Eq (.int (ns.length : Nat))) := cd_of call_len_seq fun vs B H Q hx r k => by
  obtain ⟨v, rfl, rv⟩ := rpl1 r
  simp only [Rp] at rv
  obtain ⟨a, rfl, h1⟩ := rv
  exact ⟨a, _, rfl, .inl (hx.l h1), k _ _ B H (Step.refl hx) rfl (Rp.int.mpr (by rw [List.length_map]))⟩
theorem cd_lenS {z : Str} (hz : z.length ≤ sizeLine) : CD X (.builtin "len") [.str z] (Eq (.int (z.length : Nat))) := cd_of call_len_str fun vs B H Q hx r k => by
  obtain ⟨v, rfl, rv⟩ := rpl1 r
  exact ⟨z, by rw [Rp.str.mp rv], hz, k _ _ B H (Step.refl hx) rfl (Rp.int.mpr rfl)⟩
theorem cdf_of {f : Value} {ds : List D} {r : List V → Hp → VK → Prop} {PR : List D → Prop} (h : CallR X f r) (k : ∀ vs B H (Q : VK), Ex B H → RpL X.K B ds vs → (∀ p es ws B' H', Step B H B' H' → H p = none → B' p = none → H' p = some (.lst ws) → PR es → RpL X.K B' es ws → Q (.ref p) H') → r vs H Q) : CDF X f ds PR := ⟨r, h, k⟩
theorem cdf_listL {ds : List D} : CDF X (.type "list") [.lst ds] (Eq ds) := cdf_of call_list_of fun vs B H Q hx r k => by
  obtain ⟨v, rfl, rv⟩ := rpl1 r
  obtain ⟨a, xs, rfl, h1, h2⟩ := Rp.lst.mp rv
  exact ⟨a, xs, rfl, .inl (SqL.of (hx _ _ h1)), fun l hl => k l ds xs B _ (Step.own hx hl) hl (hx.back hl) upd_same rfl h2⟩
theorem cdf_listT {ds : List D} : CDF X (.type "list") [.tup ds] (Eq ds) := cdf_of call_list_of fun vs B H Q hx r k => by
  obtain ⟨v, rfl, rv⟩ := rpl1 r
  obtain ⟨a, xs, rfl, h1, h2⟩ := Rp.tup.mp rv
  exact ⟨a, xs, rfl, .inr (hx.t h1), fun l hl => k l ds xs B _ (Step.own hx hl) hl (hx.back hl) upd_same rfl h2⟩
theorem cd_tupL {ds : List D} : CD X (.type "tuple") [.lst ds] (Eq (.tup ds)) := cd_of call_tuple_of fun vs B H Q hx r k => by
  obtain ⟨v, rfl, rv⟩ := rpl1 r
  obtain ⟨a, xs, rfl, h1, h2⟩ := Rp.lst.mp rv
  exact ⟨a, xs, rfl, .inl ⟨SqL.of (hx _ _ h1), fun l hl => k _ _ _ _ (Step.alloc hx hl) rfl (Rp.tup.mpr ⟨l, xs, rfl, SqT.of upd_same, h2.mono (Ex.new (hx.back hl))⟩)⟩⟩
theorem cd_tupT {ds : List D} : CD X (.type "tuple") [.tup ds] (Eq (.tup ds)) := cd_of call_tuple_of fun vs B H Q hx r k => by
  obtain ⟨v, rfl, rv⟩ := rpl1 r
  have rv' := rv
  obtain ⟨a, xs, rfl, h1, h2⟩ := Rp.tup.mp rv'
  exact ⟨a, xs, rfl, .inr ⟨hx.t h1, k _ _ B H (Step.refl hx) rfl rv⟩⟩
theorem cd_int {i : Int} : CD X (.type "int") [.int i] (Eq (.int i)) := cd_of call_int1 fun vs B H Q hx r k => by
  obtain ⟨v, rfl, rv⟩ := rpl1 r
  exact .inl ⟨i, by rw [Rp.int.mp rv], k _ _ B H (Step.refl hx) rfl (Rp.int.mpr rfl)⟩
theorem cd_intB {b : Bool} : CD X (.type "int") [.bl b] (Eq (.int (if b then 1 else 0))) := cd_of call_int1 fun vs B H Q hx r k => by
  obtain ⟨v, rfl, rv⟩ := rpl1 r
  exact .inr ⟨b, by rw [Rp.bl.mp rv], k _ _ B H (Step.refl hx) rfl (Rp.int.mpr rfl)⟩
theorem cd_abs {i : Int} : CD X (.builtin "abs") [.int i] (Eq (.int (if i < 0 then -i else i))) := cd_of call_abs fun vs B H Q hx r k => by
  obtain ⟨v, rfl, rv⟩ := rpl1 r
  exact ⟨i, by rw [Rp.int.mp rv], k _ _ B H (Step.refl hx) rfl (Rp.int.mpr rfl)⟩
theorem cd_max (hc : X.calm = true) {i j : Int} : CD X (.builtin "max") [.int i, .int j] (Eq (.int (if j > i then j else i))) := cd_of (call_max2 hc) fun vs B H Q hx r k => by
  obtain ⟨v, u, rfl, rv, ru⟩ := rpl2 r
  exact ⟨i, j, by rw [Rp.int.mp rv, Rp.int.mp ru], k _ _ B H (Step.refl hx) rfl (Rp.int.mpr rfl)⟩
theorem cd_min (hc : X.calm = true) {i j : Int} : CD X (.builtin "min") [.int i, .int j] (Eq (.int (if j < i then j else i))) := cd_of (call_min2 hc) fun vs B H Q hx r k => by
  obtain ⟨v, u, rfl, rv, ru⟩ := rpl2 r
  exact ⟨i, j, by rw [Rp.int.mp rv, Rp.int.mp ru], k _ _ B H (Step.refl hx) rfl (Rp.int.mpr rfl)⟩
theorem cd_divmod {i j : Int} (h : CDiv i j) : CD X (.builtin "divmod") [.int i, .int j] (Eq (.tup [.int (i / j), .int (i % j)])) := cd_of call_divmod fun vs B H Q hx r k => by
  obtain ⟨v, u, rfl, rv, ru⟩ := rpl2 r
  exact ⟨i, j, by rw [Rp.int.mp rv, Rp.int.mp ru], h, fun q hq => k _ _ _ _ (Step.alloc hx hq) rfl (Rp.tup.mpr ⟨q, _, rfl, SqT.of upd_same, RpL.cons (Rp.int.mpr rfl) (RpL.cons (Rp.int.mpr rfl) RpL.nil)⟩)⟩
theorem cd_all (hc : X.calm = true) {bs : List Bool} : CD X (.builtin "all") [.lst (D.bls bs)] (Eq (.bl (bs.all id))) := cd_of (cr_all hc) fun vs B H Q hx r k => by
  obtain ⟨v, rfl, rv⟩ := rpl1 r
  obtain ⟨a, xs, rfl, h1, h2⟩ := Rp.lst.mp rv
  cases RpL.bls.mp h2
  exact ⟨a, bs, rfl, SqL.of (hx _ _ h1), k _ _ B H (Step.refl hx) rfl (Rp.bl.mpr rfl)⟩
theorem cd_any (hc : X.calm = true) {bs : List Bool} : CD X (.builtin "any") [.lst (D.bls bs)] (Eq (.bl (bs.any id))) := cd_of (cr_any hc) fun vs B H Q hx r k => by
  obtain ⟨v, rfl, rv⟩ := rpl1 r
  obtain ⟨a, xs, rfl, h1, h2⟩ := Rp.lst.mp rv
  cases RpL.bls.mp h2
  exact ⟨a, bs, rfl, SqL.of (hx _ _ h1), k _ _ B H (Step.refl hx) rfl (Rp.bl.mpr rfl)⟩

/-! ### isinstance -/
/-- an own class whose instances can be asked for their class -/
structure OwnTy (K : PySem.W.Frag) (C : Addr) : Prop where
  cl : Cls K C
  ha : PySem.W.findIn K (.ref C) "__class__" = some (some (.builtin "object.__class__"))
  hn : PySem.W.specialIn K (.builtin "object.__class__") "__get__" = some (some (.builtin "getset_descriptor.__get__"))
  htk : PySem.W.takesIn K (.builtin "object.__class__") = some true
  hm : PySem.W.mroIn K C (.type "object") = some true
/-- the data's type -/
def TyD (K : PySem.W.Frag) : D → Value → Prop
  | .non, t => t = .type "NoneType"
  | .bl _, t => t = .type "bool"
  | .int _, t => t = .type "int"
  | .str _, t => t = .type "str"
  | .lst _, t => t = .type "list"
  | .tup _, t => t = .type "tuple"
  | .dic _, t => t = .type "dict"
  | .obj C _, t => t = .ref C ∧ OwnTy K C
  | _, _ => False
theorem tyD_of {K : PySem.W.Frag} {d : D} {t : Value} {v : V} (h : TyD K d t) (r : Rp K B d v) : TyX K B v t := by
  cases d with
  | non => cases h; rw [Rp.non.mp r]; exact .base .non
  | bl b => cases h; rw [Rp.bl.mp r]; exact .base (.bl b)
  | int b => cases h; rw [Rp.int.mp r]; exact .base (.int b)
  | str b => cases h; rw [Rp.str.mp r]; exact .base (.str b)
  | lst ds =>
    cases h
    obtain ⟨a, xs, rfl, h1, _⟩ := Rp.lst.mp r
    exact .base (.lst h1)
  | tup ds =>
    cases h
    obtain ⟨a, xs, rfl, h1, _⟩ := Rp.tup.mp r
    rcases h1 with (h1 | ⟨o, h1⟩) | ⟨o, its, n, hk, hc, _⟩
    · exact .base (.tup h1)
    · exact .fTuple h1
    · exact .kTuple hk hc
  | dic ds =>
    cases h
    simp only [Rp] at r
    obtain ⟨a, xs, rfl, h1, _⟩ := r
    rcases h1 with h1 | ⟨o, h1⟩
    · exact .base (.dK h1)
    · exact .fDict h1
  | obj C fs =>
    obtain ⟨rfl, q⟩ := h
    obtain ⟨a, dx, gs, rfl, h1, _⟩ := Rp.obj.mp r
    exact .base (.ins h1 q.cl q.ha q.hn q.htk q.hm)
  | ref _ => exact h.elim
  | ty _ => exact h.elim
  | pot => exact h.elim
  | scr _ => exact h.elim
theorem cd_isi {d : D} {n : String} {t : Value} {b : Bool} (h : TyD X.K d t) (hk : PySem.W.kitOne X.K t (.type n) = some b) : CD X (.builtin "isinstance") [d, .ty n] (Eq (.bl b)) := cd_of call_isi fun vs B H Q hx r k => by
  obtain ⟨v, u, rfl, rv, ru⟩ := rpl2 r
  simp only [Rp] at ru
  subst ru
  exact ⟨v, .ty n, t, .type n, b, rfl, .ty n, tyD_of h (rv.mono hx), hk, k _ _ B H (Step.refl hx) rfl (Rp.bl.mpr rfl)⟩
theorem cd_isiO {d : D} {C : Addr} {t : Value} {b : Bool} (h : TyD X.K d t) (hk : PySem.W.kitOne X.K t (.ref C) = some b) : CD X (.builtin "isinstance") [d, .ref C] (Eq (.bl b)) := cd_of call_isi fun vs B H Q hx r k => by
  obtain ⟨v, u, rfl, rv, ru⟩ := rpl2 r
  simp only [Rp] at ru
  subst ru
  exact ⟨v, .ref C, t, .ref C, b, rfl, .own C, tyD_of h (rv.mono hx), hk, k _ _ B H (Step.refl hx) rfl (Rp.bl.mpr rfl)⟩
/-- isinstance(e, (T1, T2)) -/
theorem en_isi2 {n m : String} {a b : Expr} {d : D} {t : Value} {r : Bool} {k1 : Nat} {tpos : Pos} (hm : X.mg "isinstance" = none) (he : EN X e σ B (Eq d)) (ha : EN X a σ B (Eq (.ty n))) (hb : EN X b σ B (Eq (.ty m))) (h : TyD X.K d t) (hk : PySem.W.kitAny X.K t [.type n, .type m] = some r)
    (hg : Gl X "isinstance" := by rfl) (hs : starEach [e, .Tuple [a, b] k1 tpos] X.env = (false, eval e X.env) :: starEach [.Tuple [a, b] k1 tpos] X.env := by rfl) (hs1 : starEach [.Tuple [a, b] k1 tpos] X.env = (false, eval (.Tuple [a, b] k1 tpos) X.env) :: starEach [] X.env := by rfl)
    (hs2 : starEach [a, b] X.env = (false, eval a X.env) :: starEach [b] X.env := by rfl) (hs3 : starEach [b] X.env = (false, eval b X.env) :: starEach [] X.env := by rfl) (hpl : (backTo pos (starEach [.Tuple [a, b] k1 tpos] X.env)).any (·.1) = false := by rfl) :
    EN X (.Call (.Name "isinstance" p) [e, .Tuple [a, b] k1 tpos] [] pos) σ B (Eq (.bl r)) := fun B1 H e1 e2 Q k =>
  RE.of (pe_callB call_isiT hg hm (by decide +kernel) (pa_cons cE (pa_cons (pe_tup (pa_cons cE (pa_cons cE pa_nil hs3) hs2)) pa_nil hs1) hs) (by decide) (by decide) hs hpl)
    (he B1 H e1 e2 _ fun v d' B2 H2 s q rv => ha B2 H2 (e1.trans s.b) s.bh _ fun u d2 B3 H3 s2 q2 ru => hb B3 H3 ((e1.trans s.b).trans s2.b) s2.bh _ fun w d3 B4 H4 s3 q3 rw_ => by
      subst q; subst q2; subst q3
      simp only [Rp] at ru rw_
      subst ru; subst rw_
      refine ⟨by show 2 ≤ sizeLine; decide, fun q hq => ?_⟩
      have st := ((s.trans s2).trans s3).trans (Step.alloc (o := .tup [.ty n, .ty m]) s3.bh hq)
      exact ⟨v, q, [.ty n, .ty m], t, [.type n, .type m], r, rfl, upd_same, .cons (.ty n) (.cons (.ty m) .nil), tyD_of h (rv.mono (s2.b.trans (s3.b.trans (s3.bh.trans (Ex.new hq))))), hk, k _ _ _ _ st rfl (Rp.bl.mpr rfl)⟩)

/-! ### repr of plain data -/
theorem repr_dp (hG : X.A.guards = some []) (hu : X.A.units + 66 < cLine) : CallR X (.builtin "repr") (fun xs H Q => ∃ v d, xs = [v] ∧ Dp X.K H v d ∧ d.showable = true ∧ d.hasDict = false ∧ d.depth ≤ 64 ∧ d.shown.length ≤ sizeLine ∧ Q (.str d.shown) H) := by
  intro pins s σ H xs us Q I r h
  obtain ⟨v, d, rfl, hd, hs, hnd, hdp, hz, q⟩ := h
  obtain ⟨u, rfl, ru⟩ := vals1 r
  obtain ⟨as, rd⟩ := Dp.reads I d v u hd ru
  cases hd with
  | non =>
    cases ru
    exact PySem.P.repr_of_none ⟨.str _, H, I.tok _, ⟨_, rfl⟩, by rw [PyData.shown] at q; exact q⟩
  | bl b =>
    cases ru
    refine PySem.P.repr_of_bool ⟨.str _, H, I.tok _, ⟨_, rfl⟩, ?_⟩
    rw [PyData.shown] at q
    cases b <;> exact q
  | int i =>
    obtain ⟨t, rfl⟩ := ru
    rw [PyData.shown] at q
    exact PySem.P.repr_of_int (by simpa [PyData.showable] using hs) ⟨.str _, H, I.tok _, ⟨_, rfl⟩, q⟩
  | str z =>
    obtain ⟨t, rfl⟩ := ru
    rw [PyData.shown] at q hz
    exact PySem.P.repr_of_str ⟨.str _, H, I.tok _, ⟨_, rfl⟩, q⟩ hz
  | lst hq ha =>
    cases ru
    exact repr_of_reads' rd hs (fun z => by rw [hnd] at z; cases z) hG (by omega) (fun _ _ z => z) (fun h' u tk hk => ⟨.str _, H, I.kept (t' := tk) hk, ⟨_, rfl⟩, q⟩) hz
  | tup hq ha =>
    cases ru
    exact repr_of_reads' rd hs (fun z => by rw [hnd] at z; cases z) hG (by omega) (fun _ _ z => z) (fun h' u tk hk => ⟨.str _, H, I.kept (t' := tk) hk, ⟨_, rfl⟩, q⟩) hz
mutual
theorem D.noDict : ∀ d : D, d.py.hasDict = false
  | .non => by simp [D.py, PyData.hasDict]
  | .bl _ => by simp [D.py, PyData.hasDict]
  | .int _ => by simp [D.py, PyData.hasDict]
  | .str _ => by simp [D.py, PyData.hasDict]
  | .lst ds => by simp [D.py, PyData.hasDict, D.noDicts ds]
  | .tup ds => by simp [D.py, PyData.hasDict, D.noDicts ds]
  | .ref _ => by simp [D.py, PyData.hasDict]
  | .ty _ => by simp [D.py, PyData.hasDict]
  | .obj _ _ => by simp [D.py, PyData.hasDict]
  | .dic _ => by simp [D.py, PyData.hasDict]
  | .pot => by simp [D.py, PyData.hasDict]
  | .scr _ => by simp [D.py, PyData.hasDict]
theorem D.noDicts : ∀ ds : List D, PyData.hasDictAll (D.pys ds) = false
  | [] => by simp [D.pys, PyData.hasDictAll]
  | d :: ds => by simp [D.pys, PyData.hasDictAll, D.noDict d, D.noDicts ds]
end
theorem cd_repr {d : D} (hG : X.A.guards = some []) (hu : X.A.units + 66 < cLine) (hp : d.plain = true) (hs : d.py.showable = true) (hd : d.py.depth ≤ 64) (hz : d.py.shown.length ≤ sizeLine) : CD X (.builtin "repr") [d] (Eq (.str d.py.shown)) := cd_of (repr_dp hG hu) fun vs B H Q hx r k => by
  obtain ⟨v, rfl, rv⟩ := rpl1 r
  exact ⟨v, d.py, rfl, (rv.mono hx).dp hp, hs, D.noDict d, hd, hz, k _ _ B H (Step.refl hx) rfl (Rp.str.mpr rfl)⟩
/-- {e!r} of plain data that is a list or a tuple -/
theorem en_fmtR {d : D} (he : EN X e σ B (Eq d)) (hl : (∃ ds, d = .lst ds) ∨ ∃ ds, d = .tup ds) (hG : X.A.guards = some []) (hu : X.A.units + 66 < cLine) (hp : d.plain = true) (hs : d.py.showable = true) (hd : d.py.depth ≤ 64) (hz : d.py.shown.length ≤ sizeLine) : EN X (.FormattedValue e 114 none pos) σ B (Eq (.str d.py.shown)) := fun B1 H e1 e2 Q k pins s I => by
  refine wpAny_FormattedValue_repr (thn (he B1 H e1 e2 (fun v H' => ∃ B', Step B1 H B' H' ∧ Rp X.K B' d v) (fun v d' B' H' s q r => ⟨B', s, q ▸ r⟩) pins s I) fun u s1 hv => ?_)
  obtain ⟨v, H', I', ru, B', st, rd⟩ := hv
  obtain ⟨as, rr⟩ := Dp.reads I' d.py v u ((rd.mono st.bh).dp hp) ru
  have ref : ∃ a, u = .ref a := by
    rcases hl with ⟨ds, rfl⟩ | ⟨ds, rfl⟩
    · obtain ⟨a, xs, rfl, _⟩ := Rp.lst.mp rd; exact ⟨a, ru⟩
    · obtain ⟨a, xs, rfl, _⟩ := Rp.tup.mp rd; exact ⟨a, ru⟩
  obtain ⟨a, rfl⟩ := ref
  refine pyReprObj_of_reads rr hs (fun z => by rw [D.noDict d] at z; cases z) hG (by omega) (fun _ _ z => z) (fun h' u tk hk => ?_) hz
  have I2 : Inv X pins σ H' { s1 with heap := h', toks := tk } := I'.kept (t' := tk) hk
  have fin := k _ _ B' H' st rfl (Rp.str.mpr rfl)
  exact wpAny_formatField_str ⟨.str _, H', I2, ⟨_, rfl⟩, fin⟩ ⟨.str _, H', I2.tok _, ⟨_, rfl⟩, fin⟩ hz
end
end Fx
set_option Elab.async false
set_option linter.all false
set_option maxRecDepth 100000
set_option maxHeartbeats 2000000
/-! Fx, part 11: the law's own end (with the guards told), defs with defaults. -/
namespace Fx
open PySem L2
open PySem.Spec PyProof.Rows

/-- the law's call over an abstract heap in which the script may stand locked -/
theorem lawAt {P : Program} {w : World} {K : PySem.W.Frag} {mg mb : Str → Option Value} {k : Nat} {fa a : Addr} {fd : FuncData} {x : Str} {s : Shared} {vs : List Value} {ns : List Int} {H : Hp} {sp : Sp}
    (KX : K.In s.heap) (hns : s.heap.Ns mainGlobals mg) (hb : s.heap.Ns builtinsNs mb) (hbb : ∀ x : Str, x ≠ "__name__" → mb x = bootBuiltins x) (hlim : s.heap.NoLimit) (hg : s.gens = #[])
    (ha : s.heap.get? a = some { cls := .type "list", data := .seq vs.toArray }) (room : Room k callerA)
    (F : ∀ base : Heap, K.In base → base.Ns mainGlobals mg → FnG P w K mg base CX0 k fa fd [x] sp) (hbind : ∀ (s : Shared) (u : Value), BindsTo s fd ⟨[u], []⟩ [(x, u)])
    (hH : ∀ b, H b = none ∨ (b = a ∧ K.lookup a = none ∧ H b = some (.frz { cls := .type "list", data := .seq vs.toArray } (.lst (ns.map V.int))))) (hok : HOk P w H s.heap) (hsp : sp [.ref a] H (fun v _ => v = .bl true) fun _ _ _ => False) :
    codeAny (model P w) callerA (.call (.ref fa) ⟨[.ref a], []⟩) (fun r s' => r = .ok (.ret (.bool true)) ∧ OldK s.heap s'.heap ∧ s'.os = s.os ∧ AllBare s'.gens) s := by
  -- the base: all that isn't tracked
  have lift : ∀ {b : Addr} {o : Obj}, s.heap.get? b = some o → b ≠ a → (hidT s.heap H).get? b = some o := fun {b o} e n => hidT_get e ((hH b).resolve_right fun z => n z.1)
  have names : ∀ {b : Addr} {m : Str → Option Value}, s.heap.Ns b m → (hidT s.heap H).Ns b m := by
    rintro b m ⟨o, es, ep, e, d, r⟩
    refine ⟨o, es, ep, lift e ?_, d, r⟩
    rintro rfl
    rw [ha] at e
    cases e
    have d' : Data.seq vs.toArray _ = Data.dict es ep := d
    cases d'
  have kin : K.In (hidT s.heap H) := fun b o e => by
    rcases hH b with n | ⟨rfl, n, _⟩
    · exact hidT_get (KX b o e) n
    · rw [n] at e; cases e
  have modl : Mod K mg (hidT s.heap H) := ⟨kin, names hns, ⟨mb, names hb, hbb⟩, by obtain ⟨mc, h1, h2⟩ := hlim; exact ⟨mc, names h1, h2⟩⟩
  have env0 : Env0 P w K mg (hidT s.heap H) callerA [] s H := ⟨rfl, modl, fun b o e => of_hidT e, Nat.le_of_eq (hidT_size _ _), trivial, fun b z => absurd (show b ∈ ([] : List Addr) from z) List.not_mem_nil, hok, .of_eq hg⟩
  refine codeAny_mono ((F _ kin (names hns)).run callerA [] s H ⟨[.ref a], []⟩ [.ref a] [.ref a] _ _ room rfl env0 (hbind s (.ref a)) (.cons rfl .nil) hsp) fun r s' h => ?_
  match r, h with
  | .error e, h => exact False.elim h
  | .ok .next, h => exact False.elim h
  | .ok .brk, h => exact False.elim h
  | .ok .cont, h => exact False.elim h
  | .ok (.ret u), ⟨v, H', os, bare, un, hok', ru, q⟩ =>
    have q' : v = .bl true := q
    subst q'
    cases (show u = Value.bool true from ru)
    refine ⟨rfl, OldK.of_keep fun b o e => ?_, os, bare⟩
    rcases hH b with n | ⟨_, _, z⟩
    · exact un.keep b o e n (fun z => absurd (show b ∈ ([] : List Addr) from z) List.not_mem_nil) List.not_mem_nil
    · have z2 := un.frzs b _ _ z
      have h1 := (hok b _ z).1
      have h2 := (hok' b _ z2).1
      rw [e] at h1
      rw [h2, ← h1]
/-- the goal that the head leaves, from the law's promise by data -/
theorem walkG {l : PySem.W.OpenLaw} {n k : Nat} {q : Program} {loose : List Str} {XP : (Str → Option Value) → Heap → Prop} {YP : World → Heap → Prop} {d : DefRec} {K : Params → PySem.W.Frag} {x : Str}
    (hn : l.most = some n) (hn2 : n ≤ sizeLine) (hdf : d.params.defaults = []) (hr : Room k callerA) (hY : ∀ (w : World) (h : Heap), YP w h → (K w.params).In h)
    (F : ∀ (w : World) (mg : Str → Option Value) (fa : Addr) (h : Heap), (K w.params).In h → h.Ns mainGlobals mg → mg d.name = some (.ref fa) →
      ∃ fd : FuncData, (∀ (s : Shared) (u : Value), BindsTo s fd ⟨[u], []⟩ [(x, u)]) ∧ ∀ base : Heap, (K w.params).In base → base.Ns mainGlobals mg →
        FnG l.prog w (K w.params) mg base CX0 k fa fd [x] (spD (K w.params) (fun ds => ∃ ns : List Int, ds = [.scr ns] ∧ ns.length ≤ n) (fun _ d => d = .bl true))) :
    PySem.W.WalkO q loose XP YP l.row.toRowW d [] (fun f vs => PySem.call f vs) := by
  refine Att.attach_call hn hdf fun w s₀ s₁ mg mb fa o pm cd doc a vs ns G Y ho hd hcd hmg hobj hints hlen hg => ?_
  have KX := hY w _ Y
  obtain ⟨fd, hb, hF⟩ := F w mg fa _ KX G.T.g hmg
  have rv : Vals (ns.map V.int) vs := vals_ints hints
  have hl : ns.length ≤ sizeLine := Nat.le_trans hlen hn2
  have want : ∀ H : Hp, SqL (K w.params) H a (ns.map V.int) → spD (K w.params) (fun ds => ∃ ns : List Int, ds = [.scr ns] ∧ ns.length ≤ n) (fun _ d => d = .bl true) [.ref a] H (fun v _ => v = .bl true) fun _ _ _ => False := fun H hS =>
    ⟨[.scr ns], H, Ex.refl H, RpL.cons (by simp only [Rp]; exact ⟨a, rfl, hS⟩) RpL.nil, ⟨ns, rfl, hlen⟩, fun v d B' H' _ q r => by subst q; exact Rp.bl.mp r⟩
  cases hk : (K w.params).lookup a with
  | some o =>
    have e := KX a o hk
    rw [hobj] at e
    cases e
    exact lawAt KX G.T.g G.T.b G.T.builtins G.T.nolimit hg hobj hr hF hb (H := fun _ => none) (ns := ns) (fun _ => .inl rfl) (fun _ _ z => by cases z)
      (want _ (.inr ⟨_, vs.toArray, _, hk, rfl, rfl, rfl, by rw [List.size_toArray, ← rv.length, List.length_map]; exact hl, by simpa using rv⟩))
  | none =>
    refine lawAt KX G.T.g G.T.b G.T.builtins G.T.nolimit hg hobj hr hF hb (ns := ns) (H := upd (fun _ => none) a (.frz { cls := .type "list", data := .seq vs.toArray } (.lst (ns.map V.int)))) (fun b => ?_) (fun b u z => ?_) (want _ (.inl (.inr ⟨_, upd_same⟩)))
    · by_cases h : b = a
      · subst h; exact .inr ⟨rfl, hk, upd_same⟩
      · exact .inl (upd_ne h)
    · by_cases h : b = a
      · subst h
        rw [upd_same] at z
        cases z
        exact ⟨hobj, by rw [List.length_map]; exact hl, vs, _, rv, hobj⟩
      · rw [upd_ne h] at z; cases z

/-! ### defs as they stand behind the top, whatever their defaults -/
structure FunA (K : PySem.W.Frag) (x qual : Str) (st : Stmt) (f : Addr) (fd : FuncData) : Prop where
  ex : ∃ (oc : Value) (od : Option Addr) (dV kV doc pm : Value) (an : Option Addr) (cdv ct : Value) (osl : Array (Option Value)),
    fd = PySem.W.fnOf x qual (defArgs st) (defBody st) (defScope st) dV kV doc pm an cdv ct ∧ K.lookup f = some ⟨oc, od, .func fd, osl⟩ ∧ PySem.W.codeIn K cdv qual = true
  kp : PySem.W.keepIn K (.ref f) = true
section
variable {P : Program} {w : World} {K : PySem.W.Frag} {mg : Str → Option Value} {base : Heap} {k : Nat} {f : Addr} {fd : FuncData} {ps : List Str} {pre : List D → Prop} {post : List D → D → Prop} {x qual : Str} {st : Stmt} {N : List Str}
theorem funA_mk {oc : Value} {od an : Option Addr} {osl : Array (Option Value)} {dV kV doc pm cdv ct : Value} (l : K.lookup f = some ⟨oc, od, .func (PySem.W.fnOf x qual (defArgs st) (defBody st) (defScope st) dV kV doc pm an cdv ct), osl⟩)
    (c : PySem.W.codeIn K cdv qual = true) (kp : PySem.W.keepIn K (.ref f) = true) : FunA K x qual st f (PySem.W.fnOf x qual (defArgs st) (defBody st) (defScope st) dV kV doc pm an cdv ct) := ⟨⟨oc, od, dV, kV, doc, pm, an, cdv, ct, osl, rfl, l, c⟩, kp⟩
theorem FunA.okB {sp : Sp} (F : FunA K x qual st f fd) (S : FnScope N ps (defScope st)) (len : ∀ vs H Q E, sp vs H Q E → vs.length = ps.length)
    (hbody : ∀ (cdv : Value) (A : Around) (outer : List Env) (s : Shared) (H : Hp) (vs : List V) (Q : VK) (E : XK), Room k (A.deeper (envOfC qual (defScope st) s.heap.objs.size f cdv)) → sp vs H Q E →
      RB (cxOf CX0 P w K mg base N qual (defScope st) f cdv A outer s H E).nox (defBody st) (start N vs) H { nx := fun _ H' => Q .non H', rt := Q }) : FnOk P w K mg base CX0 (k + 1) f fd ps sp := by
  obtain ⟨oc, od, dV, kV, doc, pm, an, cdv, ct, osl, rfl, lk, hcd⟩ := F.ex
  exact fn_of lk hcd S len fun A outer s H vs Q E hr hsp => ⟨_, PSs.nox (cB (X := (cxOf CX0 P w K mg base N qual (defScope st) f cdv A outer s H E).nox)), hbody cdv A outer s H vs Q E hr hsp⟩
theorem FunA.okD (F : FunA K x qual st f fd) (S : FnScope N ps (defScope st)) (len : ∀ ds, pre ds → ds.length = ps.length)
    (hbody : ∀ (cdv : Value) (A : Around) (outer : List Env) (s : Shared) (E : XK) (ds : List D) (vs : List V) (B H : Hp), Room k (A.deeper (envOfC qual (defScope st) s.heap.objs.size f cdv)) → Ex B H → RpL K B ds vs → pre ds →
      RB (cxOf CX0 P w K mg base N qual (defScope st) f cdv A outer s H E).nox (defBody st) (start N vs) H { nx := fun _ H' => Ret K B H (post ds) .non H', rt := Ret K B H (post ds) }) : FnOk P w K mg base CX0 (k + 1) f fd ps (spD K pre post) :=
  F.okB S (spD_len len) fun cdv A outer s H vs Q E hr ⟨ds, B, hx, r, hp, kk⟩ =>
    rb_imp (hbody cdv A outer s E ds vs B H hr hx r hp) (fun _ H' ⟨d, B', s, q, z⟩ => kk _ d B' H' s q z) (fun v H' ⟨d, B', s, q, z⟩ => kk v d B' H' s q z) (fun _ _ z => z) (fun _ _ z => z)
theorem FunA.okGD (F : FunA K x qual st f fd) (S : FnScope N ps (defScope st)) (len : ∀ ds, pre ds → ds.length = ps.length)
    (hbody : ∀ (cdv : Value) (A : Around) (outer : List Env) (s : Shared) (E : XK) (ds : List D) (vs : List V) (B H : Hp), Room k (A.deeper (envOfC qual (defScope st) s.heap.objs.size f cdv)) → A.guards = some [] → Ex B H → RpL K B ds vs → pre ds →
      RB (cxOf CX0 P w K mg base N qual (defScope st) f cdv A outer s H E).nox (defBody st) (start N vs) H { nx := fun _ H' => Ret K B H (post ds) .non H', rt := Ret K B H (post ds) }) : FnG P w K mg base CX0 (k + 1) f fd ps (spD K pre post) := by
  obtain ⟨oc, od, dV, kV, doc, pm, an, cdv, ct, osl, rfl, lk, hcd⟩ := F.ex
  refine fnG_of lk hcd S (spD_len len) fun A outer s H vs Q E hr hG ⟨ds, B, hx, r, hp, kk⟩ => ?_
  have h := rb_imp (hbody cdv A outer s E ds vs B H hr hG hx r hp) (D' := { nx := fun _ H' => Q .non H', rt := Q }) (fun _ H' ⟨d, B', s, q, z⟩ => kk _ d B' H' s q z) (fun v H' ⟨d, B', s, q, z⟩ => kk v d B' H' s q z) (fun _ _ z => z) (fun _ _ z => z)
  exact RB.of (PSs.nox (cB (X := (cxOf CX0 P w K mg base N qual (defScope st) f cdv A outer s H E).nox))) h
/-- all parameters are given, the defaults stand in a tuple -/
theorem binds_tup {T : Addr} {o : Obj} {its : Array Value} {n : Nat} {kV doc pm cdv ct : Value} {an : Option Addr} (lT : K.lookup T = some o) (oT : o.data = .seq its n)
    (h : ∀ us : List Value, us.length = ps.length → ∃ kk : Option (Array Value) → Sem (List (Str × Value)), bindArgs (PySem.W.fnOf x qual (defArgs st) (defBody st) (defScope st) (.ref T) kV doc pm an cdv ct) ⟨us, []⟩ = seqItems? (.ref T) >>= kk ∧ kk (some its) = pure (ps.zip us)) :
    Binds K (PySem.W.fnOf x qual (defArgs st) (defBody st) (defScope st) (.ref T) kV doc pm an cdv ct) ps [] := fun s us hk hl => by
  rw [List.append_nil] at hl ⊢
  obtain ⟨kk, e1, e2⟩ := h us hl
  rintro M
  exact BindsTo.of_looks (fun M => by rw [e1]; exact looks_items hk lT oT (PySem.W.Looks.of_pure e2)) M
end
end Fx
set_option Elab.async false
set_option linter.all false
set_option maxRecDepth 100000
set_option maxHeartbeats 2000000
/-! Fx, part 12: the pot opened and closed, stores, methods of built-in kinds, new instances, keywords, order of data. -/
namespace Fx
open PySem L2
open PySem.Spec PyProof.Rows

section
variable {X : Cx} {σ : L2.St} {B B' H H' : Hp} {x m : Str} {p pos apos px tpos : Pos} {e o a b : Expr} {es : List Expr} {P : D → Prop} {PL : List D → Prop} {sts rest : List Stmt} {D : Ends}

/-! ### the pot -/
theorem rb_open {q : Addr} (h : H q = some (potO q)) (k : ∀ i j : Int, 0 ≤ i → 0 ≤ j → j < 2 ^ 40 → RB X sts σ (upd H q (.lst [.int i, .int j])) D) : RB X sts σ H D := fun pins s I => by
  obtain ⟨⟨i, j, t, u, n, e, hi, hj, hj2⟩, _, _⟩ := I.hok q _ h
  have mu : Mut (H q) := by rw [h]; exact True.intro
  exact k i j hi hj hj2 pins s (I.write (x := q) (e := q) (o := .lst [.int i, .int j]) (t' := s.toks) (h' := s.heap) mu (.inl rfl) (fun _ _ _ z => z) ⟨_, e⟩ ⟨(by decide : 2 ≤ sizeLine), [.int i t, .int j u], n, .cons ⟨t, rfl⟩ (.cons ⟨u, rfl⟩ .nil), e⟩)
/-- the two numbers at q are a pot -/
def PotAt (q : Addr) (H : Hp) : Prop := ∃ i j : Int, H q = some (.lst [.int i, .int j]) ∧ 0 ≤ i ∧ 0 ≤ j ∧ j < 2 ^ 40
theorem inv_pot {pins : List (Addr × Obj)} {s : Shared} {q : Addr} (I : Inv X pins σ H s) (h : PotAt q H) : Inv X pins σ (upd H q (potO q)) s := by
  obtain ⟨i, j, h, hi, hj, hj2⟩ := h
  obtain ⟨its, n, r, e, _⟩ := I.lst h
  obtain ⟨u1, u2, rfl, ⟨t, rfl⟩, ⟨u, rfl⟩⟩ := r.two
  have mu : Mut (H q) := by rw [h]; exact True.intro
  exact I.write (x := q) (e := q) (o := potO q) (t' := s.toks) (h' := s.heap) mu (.inl rfl) (fun _ _ _ z => z) ⟨_, e⟩
    ⟨⟨i, j, t, u, n, e, hi, hj, hj2⟩, ⟨_, e⟩, fun h1 h2 ⟨i, j, t, u, n, e, q⟩ k => ⟨i, j, t, u, n, k _ e, q⟩⟩
/-- what is handed back stands beside a pot -/
theorem rb_close (h : RB X sts σ H { D with rt := fun v H' => ∃ q, PotAt q H' ∧ D.rt v (upd H' q (potO q)) }) : RB X sts σ H D := fun pins s I =>
  thn (h pins s I) fun f s' z => by
    cases f with
    | next => exact z
    | brk => exact z
    | cont => exact z
    | ret u =>
      obtain ⟨v, σ', H', I', r, q, hp, d⟩ := z
      exact ⟨v, σ', _, inv_pot I' hp, r, d⟩
theorem Step.recast {q : Addr} {u : HO} (s : Step B H B' H') (h0 : H q = none) (h1 : B' q = none) : Step B H (upd B' q u) (upd H' q u) :=
  ⟨s.b.trans (Ex.new h1), fun a w ha => by
    by_cases z : a = q
    · subst z; rw [upd_same] at ha ⊢; exact ha
    · rw [upd_ne z] at ha ⊢; exact s.bh a w ha, s.h.put h0, fun a z1 z2 => by
    have z : a ≠ q := fun z => z2 (z ▸ h0)
    rw [upd_ne z]; exact s.nw a z1 z2⟩
/-- closed again: all stands as before -/
theorem Ex.again {q : Addr} {u w : HO} (h : Ex (upd H q w) H') (h0 : H q = some u) : Ex H (upd H' q u) := fun a z ha => by
  by_cases ea : a = q
  · subst ea; rw [upd_same, ← h0]; exact ha
  · rw [upd_ne ea]; exact h a z (by rw [upd_ne ea]; exact ha)

/-! ### stores into a list of one's own -/
/-- xs[i] = e -/
theorem rb_store {i j : Nat} {q : Addr} {vs : List V} {c : Int} (hn : σ[i]? = some (some (.ref q))) (h1 : B q = none) (h2 : H q = some (.lst vs)) (he : EN X e σ B P) (ha : EN X a σ B (Eq (.int c))) (hj : ixN vs.length c = some j) (hx : Ex B H)
    (k : ∀ v d B' H', Step B H B' H' → B' q = none → P d → Rp X.K B' d v → RB X rest σ (upd H' q (.lst (vs.set j v))) D)
    (hN : X.N[i]? = some x := by rfl) (hv : Vis X.env.scope x := by first | exact Or.inl rfl | exact Or.inr (Or.inl rfl) | exact Or.inr (Or.inr rfl)) (hd : (x == ("__debug__" : Str)) = false := by decide) (hcd : (x == ("__classdict__" : Str)) = false := by decide)
    (hs : swapsWithSole [.Subscript (.Name x px) a tpos] e pos.line X.env = pure false := by rfl) (hw : swappedStores [.Subscript (.Name x px) a tpos] e X.env = pure none := by rfl)
    (h3 : (assignEach [.Subscript (.Name x px) a tpos] X.env).map (·.2) = [assign (.Subscript (.Name x px) a tpos) X.env] := by rfl)
    (h4 : ∀ v, assign (.Subscript (.Name x px) a tpos) X.env v = (do
      let ov ← holding [v] (eval (.Name x px) X.env)
      let iv ← holding [v, ov] (eval a X.env)
      standAt tpos
      holding [v, ov, iv] (setItem ov iv v)
      release [v, ov, iv] []) := by intro _; rfl) : RB X (.Assign [.Subscript (.Name x px) a tpos] e pos :: rest) σ H D :=
  rb_cons (RS.of (ps_asg cE (pg_sub (pe_var hN hv hd hcd) cE set_list h4) hs hw h3) (he B H (Ex.refl B) hx _ fun v d B1 H1 s1 pd rd => ⟨.ref q, hn, ha B1 H1 s1.b s1.bh _ fun u d2 B2 H2 s2 q2 r2 => by
    subst q2
    cases Rp.int.mp r2
    have kp := (s1.trans s2).keep h1 h2
    refine ⟨q, vs, c, j, rfl, rfl, kp.2, hj, ?_⟩
    exact k v d B2 H2 (s1.trans s2) kp.1 pd (rd.mono s2.b)⟩))

/-! ### a built-in kind's method, by data -/
/-- the data's kind -/
def Kd : Fx.D → String → Prop
  | .str _, t => t = "str" | .lst _, t => t = "list" | _, _ => False
theorem tyV_of {K : PySem.W.Frag} {d : Fx.D} {t : String} {v : V} (h : Kd d t) (r : Rp K H d v) : tyV K t v H := by
  cases d with
  | str z => cases h; cases Rp.str.mp r; exact rfl
  | lst ds => cases h; obtain ⟨q, xs, rfl, h1, _⟩ := Rp.lst.mp r; exact .inl ⟨rfl, xs, SqL.of h1⟩
  | tup ds => exact h.elim
  | non => exact h.elim
  | bl _ => exact h.elim
  | int _ => exact h.elim
  | ref _ => exact h.elim
  | ty _ => exact h.elim
  | obj _ _ => exact h.elim
  | dic _ => exact h.elim
  | pot => exact h.elim
  | scr _ => exact h.elim
/-- a method of a built-in kind on the data x, ds gives data with P -/
def MD (X : Cx) (id : String) (x : Fx.D) (ds : List Fx.D) (P : Fx.D → Prop) : Prop :=
  ∃ r, MtR X id r ∧ ∀ v vs B H (Q : VK), Ex B H → Rp X.K B x v → RpL X.K B ds vs → (∀ z d B' H', Step B H B' H' → P d → Rp X.K B' d z → Q z H') → r v vs H Q
theorem en_bm {T id : String} {dx : Fx.D} {name : Str} (hk : Kd dx T) (pa : PlainAttrs T) (slot : Slot T name id) (hty : typeOf (.builtin id) = pure (.type "method_descriptor")) (ho : EN X o σ B (Eq dx)) (ha : EA X (e :: es) σ B PL) (md : ∀ ds, PL ds → MD X id dx ds P)
    (hbase : attributeBase o name X.env (eval o X.env) = eval o X.env := by rfl)
    (hfew : ((backTo pos (starEach (e :: es) X.env)).all (fun x => !x.1) && (backToKw pos (keywordEach [] X.env)).all (fun x => x.1.isSome)
      && decide ((e :: es).length + ([] : List Keyword).length + (if ([] : List Keyword).isEmpty then 0 else 1) < 30)) = true := by rfl)
    (hline : (apos.endLine == pos.line) = true := by rfl) (hs : starEach (e :: es) X.env = (false, eval e X.env) :: starEach es X.env := by rfl) (hplain : (backTo pos (starEach es X.env)).any (·.1) = false := by rfl) :
    EN X (.Call (.Attribute o name apos) (e :: es) [] pos) σ B P := fun B1 H e1 e2 Q k => by
  let R : V → List V → Hp → VK → Prop := fun v vs H Q => ∃ ds B, PL ds ∧ Ex B H ∧ Rp X.K B dx v ∧ RpL X.K B ds vs ∧ ∀ z d B' H', Step B H B' H' → P d → Rp X.K B' d z → Q z H'
  have hR : MtR X id R := fun pins s σ H v vs vv us Q I hv hvs ⟨ds, B, pl, e, r1, r2, k⟩ => by
    obtain ⟨r, hr, q⟩ := md ds pl
    exact hr pins s σ H v vs vv us Q I hv hvs (q v vs B H Q e r1 r2 k)
  exact RE.of (pe_bm pa slot hty hR cE cA hbase hfew hline hs hplain) (ho B1 H e1 e2 _ fun v d B2 H2 s q r => by
    subst q
    refine ⟨tyV_of hk (r.mono s.bh), ha B2 H2 (e1.trans s.b) s.bh _ fun vs ds B3 H3 s' pl r' => ?_⟩
    exact ⟨ds, B3, pl, s'.bh, r.mono s'.b, r', fun z d B' H' s'' pd rd => k z d B' H' ((s.trans s').trans s'') pd rd⟩)
theorem md_join {z : Str} {ws : List Str} (h : (ws.map (·.length)).sum + ws.length * z.length ≤ 16777216) : MD X "str.join" (.str z) [.lst (Fx.D.strs ws)] (Eq (.str (Txt.join z ws))) :=
  ⟨_, mt_join, fun v vs B H Q hx rv rvs k => by
    obtain ⟨u, rfl, ru⟩ := rpl1 rvs
    obtain ⟨q, xs, rfl, h1, h2⟩ := Rp.lst.mp ru
    cases h2.toStrs
    exact ⟨z, q, ws, Rp.str.mp rv, rfl, .inl (SqL.of (hx _ _ h1)), h, k _ _ B H (Step.refl hx) rfl (Rp.str.mpr rfl)⟩⟩
theorem md_joinT {z : Str} {ws : List Str} (h : (ws.map (·.length)).sum + ws.length * z.length ≤ 16777216) : MD X "str.join" (.str z) [.tup (Fx.D.strs ws)] (Eq (.str (Txt.join z ws))) :=
  ⟨_, mt_join, fun v vs B H Q hx rv rvs k => by
    obtain ⟨u, rfl, ru⟩ := rpl1 rvs
    obtain ⟨q, xs, rfl, h1, h2⟩ := Rp.tup.mp ru
    cases h2.toStrs
    exact ⟨z, q, ws, Rp.str.mp rv, rfl, .inr (hx.t h1), h, k _ _ B H (Step.refl hx) rfl (Rp.str.mpr rfl)⟩⟩
theorem md_sindex {z w : Str} {i : Nat} {l : List Nat} (h : Builtin.Str.occurrences z w 0 z.length 1 = i :: l) : MD X "str.index" (.str z) [.str w] (Eq (.int (i : Nat))) :=
  ⟨_, mt_sindex, fun v vs B H Q hx rv rvs k => by
    obtain ⟨u, rfl, ru⟩ := rpl1 rvs
    exact ⟨z, w, i, l, Rp.str.mp rv, by rw [Rp.str.mp ru], h, k _ _ B H (Step.refl hx) rfl (Rp.int.mpr rfl)⟩⟩
/-- xs.count(b) of bools -/
def eqb (b : Bool) (v : Value) : Bool := match v with
  | .bool c => c == b
  | _ => false
theorem eqb_count {b : Bool} : ∀ {bs : List Bool} {us : List Value}, Vals (bs.map V.bl) us → us.countP (eqb b) = bs.count b
  | [], _, .nil => rfl
  | c :: bs, _ :: us, .cons r t => by
    cases r
    have ih := eqb_count (b := b) t
    rw [List.countP_cons, List.count_cons, ih]; rfl
theorem eqb_at {b : Bool} {A : Around} {s : Shared} : ∀ {bs : List Bool} {us : List Value}, Vals (bs.map V.bl) us → ∀ y ∈ us, SeqAt.EqAt A s y (.bool b) (eqb b y)
  | [], _, .nil => fun y hy => by cases hy
  | c :: bs, _ :: us, .cons r t => fun y hy => by
    cases r
    rcases List.mem_cons.mp hy with e | e
    · rw [e]; exact SeqAt.EqAt.bool_bool c b
    · exact eqb_at t y e
theorem md_countB {bs : List Bool} {b : Bool} : MD X "list.count" (.lst (Fx.D.bls bs)) [.bl b] (Eq (.int (bs.count b : Nat))) :=
  ⟨fun x xs H Q => ∃ q, x = .ref q ∧ xs = [.bl b] ∧ SqL X.K H q (bs.map V.bl) ∧ Q (.int (bs.count b : Nat)) H, fun pins s σ H x xs v us Q I rx rxs h => by
    obtain ⟨p, rfl, rfl, hs, q⟩ := h
    cases rx
    obtain ⟨u, rfl, ru⟩ := rxs.one
    cases ru
    obtain ⟨its, rv, ⟨⟨cls, dd, data, sl⟩, n, ho, hc, hdn, hd⟩, hlen⟩ := I.list hs
    simp only at hc hd
    subst hc hd
    refine call_meets PySem.F.slot_list_count ⟨_, ho, rfl⟩ PySem.F.entry_list_count (PySem.F.args_list_count_2 _ _)
      (SeqAt.list_countAt p its.toArray n dd sl (.bool b) (eqb b)) ⟨ho, fun y hy => eqb_at rv y (by simpa using hy), ?_⟩
    have ec : its.toArray.toList.countP (eqb b) = bs.count b := eqb_count rv
    refine ⟨.int (bs.count b : Nat), H, I.tok _, ⟨s.toks, ?_⟩, q⟩
    show Value.int ((its.toArray.toList.countP (eqb b) : Nat) : Int) s.toks = Value.int ((bs.count b : Nat) : Int) s.toks
    rw [ec], fun v vs B H Q hx rv rvs k => by
    obtain ⟨u, rfl, ru⟩ := rpl1 rvs
    obtain ⟨q, xs, rfl, h1, h2⟩ := Rp.lst.mp rv
    cases RpL.bls.mp h2
    exact ⟨q, rfl, by rw [Rp.bl.mp ru], SqL.of (hx _ _ h1), k _ _ B H (Step.refl hx) rfl (Rp.int.mpr rfl)⟩⟩
/-- xs.insert(i, e), xs of one's own -/
theorem rb_insert {i : Nat} {q : Addr} {vs : List V} {c : Int} (hq : σ[i]? = some (some (.ref q))) (h1 : B q = none) (h2 : H q = some (.lst vs)) (hz : vs.length < sizeLine) (ha : EN X a σ B (Eq (.int c))) (he : EN X e σ B P) (hc : 0 ≤ c) (hc2 : c < 2 ^ 63) (hx : Ex B H)
    (k : ∀ v d B' H', Step B H B' H' → B' q = none → P d → Rp X.K B' d v → RB X rest σ (upd H' q (.lst (vs.take c.toNat ++ [v] ++ vs.drop c.toNat))) D)
    (hs : swapsWith (.Call (.Attribute (.Name x px) "insert" apos) [a, e] [] p) none pos.line X.env = pure false := by rfl)
    (hst1 : starEach [a, e] X.env = (false, eval a X.env) :: starEach [e] X.env := by rfl) (hst2 : starEach [e] X.env = (false, eval e X.env) :: starEach [] X.env := by rfl)
    (hpe : ∀ r, MtR X "list.insert" r → PE X (.Call (.Attribute (.Name x px) "insert" apos) [a, e] [] p) (tBM X.K "list" r (tVar i) (RA X [a, e])) := by exact fun r hr => pe_bm PySem.F.plainAttrs_list PySem.F.slot_list_insert PySem.F.type_list_insert hr (pv _) cA) :
    RB X (.Expr (.Call (.Attribute (.Name x px) "insert" apos) [a, e] [] p) pos :: rest) σ H D :=
  rb_cons (RS.of (ps_expr (hpe _ mt_insert) hs)
    ⟨.ref q, hq, .inl ⟨rfl, _, SqL.of h2⟩, ea_consN ha (ea_consN he ea_nil hst2) hst1 B H (Ex.refl B) hx _ fun ws ds B' H' s pd r => by
      obtain ⟨d1, ds1, rfl, q1, d2, ds2, rfl, q2, rfl⟩ := pd
      subst q1
      obtain ⟨v1, v2, rfl, r1, r2⟩ := rpl2 r
      cases Rp.int.mp r1
      have kp := s.keep h1 h2
      exact ⟨q, vs, c, v2, rfl, rfl, kp.2, hz, hc, hc2, k v2 d2 B' H' s kp.1 q2 r2⟩⟩)

/-! ### is not False; < of data -/
theorem od_notB {a b : Bool} : OD X (compareOp .IsNot) (.bl a) (.bl b) (Eq (.bl (!decide (a = b)))) :=
  ⟨_, op_notBl, fun v u B H Q e rx ry k => ⟨a, b, Rp.bl.mp rx, Rp.bl.mp ry, k _ _ B H (Step.refl e) rfl (Rp.bl.mpr rfl)⟩⟩
theorem od_isB {a b : Bool} : OD X (compareOp .Is) (.bl a) (.bl b) (Eq (.bl (decide (a = b)))) :=
  ⟨_, op_isBl, fun v u B H Q e rx ry k => ⟨a, b, Rp.bl.mp rx, Rp.bl.mp ry, k _ _ B H (Step.refl e) rfl (Rp.bl.mpr rfl)⟩⟩
theorem od_ltD {x y : Fx.D} (px : x.plain = true) (py : y.plain = true) (ha : PySem.W.alike x.py y.py = true) (hn : x.py ≠ .none) (hu : X.A.units + min x.py.depth y.py.depth < cLine) : OD X (compareOp .Lt) x y (Eq (.bl (PySem.W.dataLt x.py y.py))) :=
  ⟨fun v u H Q => Dp X.K H v x.py ∧ Dp X.K H u y.py ∧ Q (.bl (PySem.W.dataLt x.py y.py)) H, fun pins s σ H v u vv uu Q I rv ru ⟨d1, d2, q⟩ => by
    obtain ⟨as, r1⟩ := Dp.reads I x.py v vv d1 rv
    obtain ⟨bs, r2⟩ := Dp.reads I y.py u uu d2 ru
    exact PySem.W.lt_data r1 r2 ha hn hu ⟨.bl _, H, I, rfl, q⟩, fun v u B H Q e rx ry k => ⟨(rx.mono e).dp px, (ry.mono e).dp py, k _ _ B H (Step.refl e) rfl (Rp.bl.mpr rfl)⟩⟩

/-! ### a method with one keyword -/
theorem en_methK {kk : Nat} {f C : Addr} {fd : FuncData} {ps : List Str} {pre : List Fx.D → Prop} {post : List Fx.D → Fx.D → Prop} {fs : List (Str × Fx.D)} {kn : Str} {kpos : Pos} {d0 : Fx.D} {pl : Sem Bool} (c : Cls X.K C) (hm : Meth X.K C m f) (F : FnOk X.prog X.w X.K X.mg X.base CX0 kk f fd ps (spD X.K pre post)) (hr : Room kk X.A)
    (hb : ∀ (s : Shared) (u w : Value), X.K.In s.heap → BindsTo s fd ⟨[u], [(kn, w)]⟩ (ps.zip [u, w])) (ho : EN X o σ B (Eq (.obj C fs))) (hl : fs.lookup m = none)
    (he : EN X e σ B (Eq d0)) (hpre : pre [.obj C fs, d0]) (hall : (backToKw pos (keywordEach [⟨some kn, e, kpos⟩] X.env)).all (·.1.isSome) = true := by rfl) (hks : (backToKw pos (keywordEach [⟨some kn, e, kpos⟩] X.env)).filterMap (·.1) = [kn] := by rfl)
    (hpl : ((backTo pos (starEach [] X.env)).any (·.1) || (backToKw pos (keywordEach [⟨some kn, e, kpos⟩] X.env)).any (·.1.isNone)) = false := by rfl)
    (ht : eval (.Call (.Attribute o m apos) [] [⟨some kn, e, kpos⟩] pos) X.env = (do
      let ov ← eval o X.env
      standAt apos.atName
      let (f, first) ← holding [ov] (getMethod ov m pl)
      callWith pos f first (backTo pos (starEach [] X.env)) (backToKw pos (keywordEach [⟨some kn, e, kpos⟩] X.env))) := by rfl) :
    EN X (.Call (.Attribute o m apos) [] [⟨some kn, e, kpos⟩] pos) σ B (post [.obj C fs, d0]) := fun B1 H e1 e2 Q k pins s I => by
  refine PySem.W.methodCall_KW (pl := pl) (thn (ho B1 H e1 e2 (fun v H' => ∃ B', Step B1 H B' H' ∧ Rp X.K B' (.obj C fs) v) (fun v d' B' H' s q r => ⟨B', s, q ▸ r⟩) pins s I) fun u s1 ⟨v, H1, I1, rv, B2, st, ro⟩ => ?_) ht
  have ro' := ro
  obtain ⟨q, dx, gs, rfl, h1, h2⟩ := Rp.obj.mp ro'
  cases rv
  refine getmeth_ok I1 (st.bh _ _ h1) c hm (h2.none hl) ?_
  refine PySem.W.callWith_KW0 I1.kIn hm.kp hall (thn ((pk_cons (nm := some kn) (kpos := kpos) cE pk_nil).run pos pins s1 σ H1 (fun vs H' => ∃ w B', vs = [w] ∧ Step B2 H1 B' H' ∧ Rp X.K B' d0 w) I1 (he B2 H1 (e1.trans st.b) st.bh _ fun w d B' H' s' q' r' => ⟨w, B', rfl, s', q' ▸ r'⟩)) fun us s2 ⟨vs, H2, I2, rvs, w, B3, evs, st2, rw_⟩ => ⟨I2.kIn, ?_⟩) hpl
  subst evs
  obtain ⟨uw, rfl, ruw⟩ := rvs.one
  rw [hks]
  have rel : Vals [V.ref q, w] [Value.ref q, uw] := .cons rfl (.cons ruw .nil)
  have want : spD X.K pre post [V.ref q, w] H2 Q E0 := ⟨[.obj C fs, d0], B3, st2.bh, RpL.cons (ro.mono st2.b) (RpL.cons rw_ RpL.nil), hpre, fun v d B' H' s' pd rd => k v d B' H' ((st.trans st2).trans s') pd rd⟩
  show wpAny _ _ (call (.ref f) [.ref q] [(kn, uw)]) _ _ _
  refine wpAny_call (codeAny_mono (F.run X.A X.stack s2 H2 ⟨[.ref q], [(kn, uw)]⟩ [.ref q, uw] [.ref q, w] Q E0 hr I2.env0 (hb s2 _ _ I2.kIn) rel want) fun res s' hq => ?_)
  match res, hq with
  | .error e, hq => exact hq.elim
  | .ok (.ret u), hq => exact I2.after hq
  | .ok .next, hq => exact hq.elim
  | .ok .brk, hq => exact hq.elim
  | .ok .cont, hq => exact hq.elim

/-! ### new instances -/
/-- __init__ gives the attributes fs -/
def spMake (K : PySem.W.Frag) (C : Addr) (pre : List Fx.D → Prop) (fs : List Fx.D → List (Str × Fx.D)) : Sp := fun vs H Q _ =>
  ∃ x dx us ds B, vs = .ref x :: us ∧ H x = some (.ins C dx []) ∧ Ex B H ∧ B x = none ∧ RpL K B ds us ∧ pre ds ∧
    ∀ gs B' H', Ex B B' → Ex B' H' → (∀ a o, a ≠ x → H a = some o → H' a = some o) → (∀ a, B a = none → H a ≠ none → B' a = none) → H' x = some (.ins C dx gs) → RpF K B' (fs ds) gs → Q .non H'
theorem en_make {kk : Nat} {f C : Addr} {fd : FuncData} {ps : List Str} {pre : List Fx.D → Prop} {fs : List Fx.D → List (Str × Fx.D)} (M : Mk X.K C f) (F : FnOk X.prog X.w X.K X.mg X.base CX0 kk f fd ps (spMake X.K C pre fs)) (hr : Room (kk + 1) X.A) (hm : X.mg x = some (.ref C)) (hb : Binds X.K fd ps [])
    (ha : EA X (e :: es) σ B PL) (hp : ∀ ds, PL ds → pre ds) (hg : Gl X x := by rfl) (hdb : (x == ("__debug__" : Str)) = false := by decide) (he : starEach (e :: es) X.env = (false, eval e X.env) :: starEach es X.env := by rfl) (hpl : (backTo pos (starEach es X.env)).any (·.1) = false := by rfl) :
    EN X (.Call (.Name x p) (e :: es) [] pos) σ B (fun d => ∃ ds, PL ds ∧ d = .obj C (fs ds)) := fun B1 H e1 e2 Q k =>
  RE.of (pe_make (E := E0) M F hr hg hm hb .nil pass0 cA hdb he hpl) (ha B1 H e1 e2 _ fun vs ds B2 H2 s pl r => by
    rw [List.append_nil]
    intro y dx ny ndx hne
    have nB : B2 y = none := s.bh.back ny
    refine ⟨y, dx, vs, ds, B2, rfl, upd_same, (s.bh.put (s.bh.back ndx)).put nB, nB, r, hp ds pl, fun gs B3 H3 x1 x2 x3 x4 x5 x6 => ⟨rfl, ?_⟩⟩
    · have h3 : B3 y = none := x4 y nB (by rw [upd_same]; exact fun z => nomatch z)
      have ex : Ex H2 H3 := fun a u ha => by
        have n1 : a ≠ y := ne_of_none ha ny
        have n2 : a ≠ dx := ne_of_none ha ndx
        exact x3 a u n1 (by rw [upd_ne n1, upd_ne n2]; exact ha)
      have st : Step B2 H2 B3 H3 := ⟨x1, x2, ex, fun a h1 h2 => by
        have n1 : a ≠ y := fun z => h2 (z ▸ ny)
        have n2 : a ≠ dx := fun z => h2 (z ▸ ndx)
        exact x4 a h1 (by rw [upd_ne n1, upd_ne n2]; exact h2)⟩
      exact k _ _ _ H3 (s.trans (st.share ny h3 x5)) ⟨ds, pl, rfl⟩ (Rp.obj.mpr ⟨y, dx, gs, rfl, upd_same, RpF.mono (Ex.new h3) x6⟩))
/-- self.f = e in __init__ -/
theorem rb_fld {i : Nat} {y C dx : Addr} {gs : List (Str × V)} {f : Str} {opos : Pos} (hn : σ[i]? = some (some (.ref y))) (h1 : B y = none) (h2 : H y = some (.ins C dx gs)) (c : Cls X.K C) (nf : NoAttr X.K C f) (hl : gs.length < 1000) (he : EN X e σ B P) (hx : Ex B H)
    (k : ∀ v d B' H', Step B H B' H' → B' y = none → P d → Rp X.K B' d v → RB X rest σ (upd H' y (.ins C dx (putF f v gs))) D)
    (hN : X.N[i]? = some x := by rfl) (hv : Vis X.env.scope x := by first | exact Or.inl rfl | exact Or.inr (Or.inl rfl) | exact Or.inr (Or.inr rfl)) (hd : (x == ("__debug__" : Str)) = false := by decide) (hcd : (x == ("__classdict__" : Str)) = false := by decide)
    (hs : swapsWith e (some (.Attribute (.Name x px) f opos)) pos.line X.env = pure false := by rfl) : RB X (.Assign [.Attribute (.Name x px) f opos] e pos :: rest) σ H D :=
  rb_cons (RS.of (ps_fld (pe_var hN hv hd hcd) cE hs) (he B H (Ex.refl B) hx _ fun v d B1 H1 s1 pd rd => ⟨.ref y, hn, by
    have kp := s1.keep h1 h2
    exact ⟨y, C, dx, gs, rfl, kp.2, c, nf, hl, k v d B1 H1 s1 kp.1 pd rd⟩⟩))
end
end Fx
set_option Elab.async false
set_option linter.all false
set_option maxRecDepth 100000
set_option maxHeartbeats 2000000
/-! Fx, part 13: calls of defs for which guards don't matter, two targets with a new list, texts of three parts. -/
namespace Fx
open PySem L2
open PySem.Spec PyProof.Rows

section
variable {X : Cx} {σ : L2.St} {B B' H H' : Hp} {x y m : Str} {p pos apos px py tpos : Pos} {e o a b c : Expr} {es : List Expr} {P Pa Pb : Fx.D → Prop} {PL : List Fx.D → Prop} {sts rest : List Stmt} {D : Ends}
variable {kk : Nat} {f C : Addr} {fd : FuncData} {ps : List Str} {pre : List Fx.D → Prop} {post : List Fx.D → Fx.D → Prop}
/-- f(e, ..), guards or not -/
theorem en_callO (F : FnOk X.prog X.w X.K X.mg X.base CX0 kk f fd ps (spD X.K pre post)) (hr : Room kk X.A) (hm : X.mg x = some (.ref f)) (hk : PySem.W.keepIn X.K (.ref f) = true) (hb : Binds X.K fd ps [])
    (ha : EA X (e :: es) σ B PL) (hp : ∀ ds, PL ds → pre ds) (hg : Gl X x := by rfl) (hdb : (x == ("__debug__" : Str)) = false := by decide) (he : starEach (e :: es) X.env = (false, eval e X.env) :: starEach es X.env := by rfl) (hpl : (backTo pos (starEach es X.env)).any (·.1) = false := by rfl) :
    EN X (.Call (.Name x p) (e :: es) [] pos) σ B (fun d => ∃ ds, PL ds ∧ post ds d) := fun B1 H e1 e2 Q k =>
  RE.of (pe_call (E := E0) F hr hg hm hk hb .nil pass0 cA hdb he hpl) (ha B1 H e1 e2 _ fun vs ds B' H' s pl r => by
    rw [List.append_nil]
    exact ⟨ds, B', s.bh, r, hp ds pl, fun v d B'' H'' s' q z => k v d B'' H'' (s.trans s') ⟨ds, pl, q⟩ z⟩)
theorem ed_callO {ds : List Fx.D} (F : FnOk X.prog X.w X.K X.mg X.base CX0 kk f fd ps (spD X.K pre post)) (hr : Room kk X.A) (hm : X.mg x = some (.ref f)) (hk : PySem.W.keepIn X.K (.ref f) = true) (hb : Binds X.K fd ps [])
    (ha : EA X (e :: es) σ B (Eq ds)) (hp : pre ds) (hg : Gl X x := by rfl) (hdb : (x == ("__debug__" : Str)) = false := by decide) (he : starEach (e :: es) X.env = (false, eval e X.env) :: starEach es X.env := by rfl) (hpl : (backTo pos (starEach es X.env)).any (·.1) = false := by rfl) :
    EN X (.Call (.Name x p) (e :: es) [] pos) σ B (post ds) := (en_callO F hr hm hk hb ha (fun _ q => q ▸ hp) hg hdb he hpl).imp fun d ⟨ds', q, z⟩ => q ▸ z

/-- if without else -/
theorem rb_if0 {t : Bool} (hc : ET X c σ B (Eq t)) (hx : Ex B H) (h1 : t = true → ∀ B' H', Step B H B' H' → RB X sts σ H' { D with nx := fun σ' H' => RB X rest σ' H' D }) (h2 : t = false → ∀ B' H', Step B H B' H' → RB X rest σ H' D) : RB X (.If c sts [] pos :: rest) σ H D :=
  rb_if hc hx h1 fun q B' H' s => rb_nil (h2 q B' H' s)
/-- .. that is not so -/
theorem rb_ifF (hc : ET X c σ B (Eq false)) (hx : Ex B H) (h2 : ∀ B' H', Step B H B' H' → RB X rest σ H' D) : RB X (.If c sts [] pos :: rest) σ H D :=
  rb_if0 hc hx (fun q => nomatch q) fun _ => h2
theorem rb_if0N {Pt : Bool → Prop} (hc : ET X c σ B Pt) (hx : Ex B H) (h1 : Pt true → ∀ B' H', Step B H B' H' → RB X sts σ H' { D with nx := fun σ' H' => RB X rest σ' H' D }) (h2 : Pt false → ∀ B' H', Step B H B' H' → RB X rest σ H' D) : RB X (.If c sts [] pos :: rest) σ H D :=
  rb_ifN hc hx h1 fun q B' H' s => rb_nil (h2 q B' H' s)
/-- a, b = (a new list), e: any names -/
theorem rb_asg2F {i j : Nat} {pt pt2 : Pos} {kt k2 : Nat} (hc : X.calm = true) (hN : X.N.Nodup) (ha : EF X a σ B PL) (hb : EN X b σ B Pb) (hx : Ex B H)
    (k : ∀ q ds vs w d B' H', Step B H B' H' → H q = none → B' q = none → H' q = some (.lst vs) → PL ds → RpL X.K B' ds vs → Pb d → Rp X.K B' d w → RB X rest ((σ.set i (some (.ref q))).set j (some w)) H' D)
    (hi : X.N[i]? = some x := by rfl) (hj : X.N[j]? = some y := by rfl) (hlx : Loc X.env.scope x := by first | exact Or.inl rfl | exact Or.inr rfl) (hly : Loc X.env.scope y := by first | exact Or.inl rfl | exact Or.inr rfl)
    (hfx : X.fn x = true ∨ X.env.scope.names.lookup x = some .local := by first | exact .inl rfl | exact .inr rfl) (hfy : X.fn y = true ∨ X.env.scope.names.lookup y = some .local := by first | exact .inl rfl | exact .inr rfl)
    (hs : swapsWithSole [.Tuple [.Name x px, .Name y py] kt pt] (.Tuple [a, b] k2 pt2) pos.line X.env = pure false := by rfl) (hw : swappedStores [.Tuple [.Name x px, .Name y py] kt pt] (.Tuple [a, b] k2 pt2) X.env = pure none := by rfl)
    (h1 : (assignEach [.Tuple [.Name x px, .Name y py] kt pt] X.env).map (·.2) = [assign (.Tuple [.Name x px, .Name y py] kt pt) X.env] := by rfl)
    (hs1 : starEach [a, b] X.env = (false, eval a X.env) :: starEach [b] X.env := by rfl) (hs2 : starEach [b] X.env = (false, eval b X.env) :: starEach [] X.env := by rfl)
    (hn : (assignEach [.Name x px, .Name y py] X.env).length = 2 := by rfl) (hst : (assignEach [.Name x px, .Name y py] X.env).findIdx? (·.1) = none := by rfl)
    (hq1 : (assignEach [.Name x px, .Name y py] X.env).map (·.2) = assign (.Name x px) X.env :: (assignEach [.Name y py] X.env).map (·.2) := by rfl) (hq2 : (assignEach [.Name y py] X.env).map (·.2) = assign (.Name y py) X.env :: (assignEach [] X.env).map (·.2) := by rfl) :
    RB X (.Assign [.Tuple [.Name x px, .Name y py] kt pt] (.Tuple [a, b] k2 pt2) pos :: rest) σ H D :=
  rb_cons (RS.of (ps_asg (pe_tup (pa_cons cE (pa_cons cE pa_nil hs2) hs1)) (pg_tup (n := 2) hc (pgs_cons (pg_name hN hi hlx hfx) (pgs_cons (pg_name hN hj hly hfy) pgs_nil hq2) hq1) hn hst) hs hw h1)
    (ha B H (Ex.refl B) hx _ fun q ds vs B1 H1 s1 n0 n1 h2 pl r => hb B1 H1 s1.b s1.bh _ fun w d B2 H2 s2 pd rd => by
      refine ⟨by show 2 ≤ sizeLine; decide, fun t ht => ⟨t, _, rfl, SqT.of upd_same, rfl, .ref q, [w], rfl, w, [], rfl, rfl, ?_⟩⟩
      have k1 := s2.keep n1 h2
      have st := (s1.trans s2).trans (Step.own (o := .tup [.ref q, w]) s2.bh ht)
      exact k q ds vs w d B2 _ st n0 k1.1 (by rw [upd_ne (ne_of_none k1.2 ht)]; exact k1.2) pl (r.mono s2.b) pd rd))
/-- a, b = e, f in two plain locals, each by itself -/
theorem rb_par2 {i j : Nat} {pt pt2 : Pos} {kt k2 : Nat} (hc : X.calm = true) (hN : X.N.Nodup) (ha : EN X a σ B Pa) (hb : EN X b σ B Pb) (hx : Ex B H) (hij : i ≠ j)
    (k : ∀ v d w d' B' H', Step B H B' H' → Pa d → Rp X.K B' d v → Pb d' → Rp X.K B' d' w → RB X rest ((σ.set i (some v)).set j (some w)) H' D)
    (hw : swappedStores [.Tuple [.Name x px, .Name y py] kt pt] (.Tuple [a, b] k2 pt2) X.env = pure (some [x, y]) := by rfl)
    (hi : X.N[i]? = some x := by rfl) (hj : X.N[j]? = some y := by rfl) (hlx : X.env.scope.names.lookup x = some .local := by rfl) (hly : X.env.scope.names.lookup y = some .local := by rfl) (hs : swapsWithSole [.Tuple [.Name x px, .Name y py] kt pt] (.Tuple [a, b] k2 pt2) pos.line X.env = pure false := by rfl)
    (hs1 : starEach [a, b] X.env = (false, eval a X.env) :: starEach [b] X.env := by rfl) (hs2 : starEach [b] X.env = (false, eval b X.env) :: starEach [] X.env := by rfl) :
    RB X (.Assign [.Tuple [.Name x px, .Name y py] kt pt] (.Tuple [a, b] k2 pt2) pos :: rest) σ H D :=
  rb_par hc hN (ea_consN ha (ea_consN hb ea_nil hs2) hs1) hx hij (fun vs ds B' H' s ⟨d, _, e1, pd, d', _, e2, pd', e3⟩ r => by
    subst e3; subst e2; subst e1
    obtain ⟨v, w, rfl, r1, r2⟩ := rpl2 r
    exact ⟨v, w, rfl, k v d w d' B' H' s pd r1 pd' r2⟩) hw hi hj hlx hly hs
/-- xs[0] = e, whoever else may know the list -/
theorem rb_storeI {i j : Nat} {q : Addr} {vs : List V} {c0 : Int} {jc : Nat} {cpos : Pos} (hn : σ[i]? = some (some (.ref q))) (h2 : H q = some (.lst vs)) (he : EN X e σ B P) (hj : ixN vs.length c0 = some j) (hx : Ex B H)
    (k : ∀ v d B' H', Step B H B' H' → P d → Rp X.K B' d v → RB X rest σ (upd H' q (.lst (vs.set j v))) D)
    (hN : X.N[i]? = some x := by rfl) (hv : Vis X.env.scope x := by first | exact Or.inl rfl | exact Or.inr (Or.inl rfl) | exact Or.inr (Or.inr rfl)) (hd : (x == ("__debug__" : Str)) = false := by decide) (hcd : (x == ("__classdict__" : Str)) = false := by decide)
    (hs : swapsWithSole [.Subscript (.Name x px) (.Constant (.int c0) jc cpos) tpos] e pos.line X.env = pure false := by rfl) (hw : swappedStores [.Subscript (.Name x px) (.Constant (.int c0) jc cpos) tpos] e X.env = pure none := by rfl)
    (h3 : (assignEach [.Subscript (.Name x px) (.Constant (.int c0) jc cpos) tpos] X.env).map (·.2) = [assign (.Subscript (.Name x px) (.Constant (.int c0) jc cpos) tpos) X.env] := by rfl)
    (h4 : ∀ v, assign (.Subscript (.Name x px) (.Constant (.int c0) jc cpos) tpos) X.env v = (do
      let ov ← holding [v] (eval (.Name x px) X.env)
      let iv ← holding [v, ov] (eval (.Constant (.int c0) jc cpos) X.env)
      standAt tpos
      holding [v, ov, iv] (setItem ov iv v)
      release [v, ov, iv] []) := by intro _; rfl) : RB X (.Assign [.Subscript (.Name x px) (.Constant (.int c0) jc cpos) tpos] e pos :: rest) σ H D :=
  rb_cons (RS.of (ps_asg cE (pg_sub (pe_var hN hv hd hcd) pe_int set_list h4) hs hw h3) (he B H (Ex.refl B) hx _ fun v d B1 H1 s1 pd rd => ⟨.ref q, hn, q, vs, c0, j, rfl, rfl, s1.h _ _ h2, hj, k v d B1 H1 s1 pd rd⟩))
/-- xs[0], y = a pair -/
theorem rb_storeP {i j l : Nat} {q : Addr} {vs : List V} {c0 : Int} {jc kt : Nat} {cpos pt : Pos} {d1 d2 : Fx.D} (hc : X.calm = true) (hNd : X.N.Nodup) (hn : σ[i]? = some (some (.ref q))) (h2 : H q = some (.lst vs)) (he : EN X e σ B (Eq (.tup [d1, d2]))) (hj : ixN vs.length c0 = some j) (hx : Ex B H)
    (k : ∀ v w B' H', Step B H B' H' → Rp X.K B' d1 v → Rp X.K B' d2 w → RB X rest (σ.set l (some w)) (upd H' q (.lst (vs.set j v))) D)
    (hN : X.N[i]? = some x := by rfl) (hN2 : X.N[l]? = some y := by rfl) (hv : Vis X.env.scope x := by first | exact Or.inl rfl | exact Or.inr (Or.inl rfl) | exact Or.inr (Or.inr rfl)) (hd : (x == ("__debug__" : Str)) = false := by decide) (hcd : (x == ("__classdict__" : Str)) = false := by decide)
    (hl2 : Loc X.env.scope y := by first | exact Or.inl rfl | exact Or.inr rfl) (hf2 : X.fn y = true ∨ X.env.scope.names.lookup y = some .local := by first | exact .inl rfl | exact .inr rfl)
    (hs : swapsWithSole [.Tuple [.Subscript (.Name x px) (.Constant (.int c0) jc cpos) tpos, .Name y py] kt pt] e pos.line X.env = pure false := by rfl) (hw : swappedStores [.Tuple [.Subscript (.Name x px) (.Constant (.int c0) jc cpos) tpos, .Name y py] kt pt] e X.env = pure none := by rfl)
    (h3 : (assignEach [.Tuple [.Subscript (.Name x px) (.Constant (.int c0) jc cpos) tpos, .Name y py] kt pt] X.env).map (·.2) = [assign (.Tuple [.Subscript (.Name x px) (.Constant (.int c0) jc cpos) tpos, .Name y py] kt pt) X.env] := by rfl)
    (hq0 : (assignEach [.Subscript (.Name x px) (.Constant (.int c0) jc cpos) tpos, .Name y py] X.env).length = 2 := by rfl) (hst : (assignEach [.Subscript (.Name x px) (.Constant (.int c0) jc cpos) tpos, .Name y py] X.env).findIdx? (·.1) = none := by rfl)
    (hq1 : (assignEach [.Subscript (.Name x px) (.Constant (.int c0) jc cpos) tpos, .Name y py] X.env).map (·.2) = assign (.Subscript (.Name x px) (.Constant (.int c0) jc cpos) tpos) X.env :: (assignEach [.Name y py] X.env).map (·.2) := by rfl) (hq2 : (assignEach [.Name y py] X.env).map (·.2) = assign (.Name y py) X.env :: (assignEach [] X.env).map (·.2) := by rfl)
    (h4 : ∀ v, assign (.Subscript (.Name x px) (.Constant (.int c0) jc cpos) tpos) X.env v = (do
      let ov ← holding [v] (eval (.Name x px) X.env)
      let iv ← holding [v, ov] (eval (.Constant (.int c0) jc cpos) X.env)
      standAt tpos
      holding [v, ov, iv] (setItem ov iv v)
      release [v, ov, iv] []) := by intro _; rfl) : RB X (.Assign [.Tuple [.Subscript (.Name x px) (.Constant (.int c0) jc cpos) tpos, .Name y py] kt pt] e pos :: rest) σ H D :=
  rb_cons (RS.of (ps_asg cE (pg_tup (n := 2) hc (pgs_cons (pg_sub (pe_var hN hv hd hcd) pe_int set_list h4) (pgs_cons (pg_name hNd hN2 hl2 hf2) pgs_nil hq2) hq1) hq0 hst) hs hw h3) (he B H (Ex.refl B) hx _ fun v d B1 H1 s1 pd rd => by
    subst pd
    obtain ⟨t, xs, rfl, h5, h6⟩ := Rp.tup.mp rd
    obtain ⟨v1, v2, rfl, r1, r2⟩ := rpl2 h6
    exact ⟨t, _, rfl, s1.bh.t h5, rfl, v1, [v2], rfl, .ref q, hn, q, vs, c0, j, rfl, rfl, s1.h _ _ h2, hj, v2, [], rfl, rfl, k v1 v2 B1 H1 s1 r1 r2⟩))
/-- xs.append(e), whoever may read it meanwhile -/
theorem rb_appendX {i : Nat} {q : Addr} {vs : List V} (hq : σ[i]? = some (some (.ref q))) (h2 : H q = some (.lst vs)) (hz : vs.length < sizeLine) (he : EN X e σ B P) (hx : Ex B H)
    (k : ∀ v d B' H', Step B H B' H' → P d → Rp X.K B' d v → RB X rest σ (upd H' q (.lst (vs ++ [v]))) D)
    (hs : swapsWith (.Call (.Attribute (.Name x px) "append" apos) [e] [] p) none pos.line X.env = pure false := by rfl)
    (hpe : PE X (.Call (.Attribute (.Name x px) "append" apos) [e] [] p) (tBM X.K "list" rAppend (tVar i) (tCons (RE X e) tNil)) := by exact pe_bm PySem.F.plainAttrs_list PySem.F.slot_list_append PySem.F.type_list_append mt_append (pv _) (pa_cons cE pa_nil)) :
    RB X (.Expr (.Call (.Attribute (.Name x px) "append" apos) [e] [] p) pos :: rest) σ H D :=
  rb_cons (RS.of (ps_expr hpe hs)
    ⟨.ref q, hq, .inl ⟨rfl, _, SqL.of h2⟩, he B H (Ex.refl B) hx _ fun v d B' H' s pd r =>
      ⟨q, vs, v, rfl, rfl, s.h _ _ h2, hz, k v d B' H' s pd r⟩⟩)
/-- a list of one's own, new since H, is shared now -/
theorem Step.fresh {H1 : Hp} {q : Addr} {u : HO} (x1 : Ex B H1) (x2 : Ex H H1) (h0 : H q = none) (h1 : B q = none) (h2 : H1 q = some u) : Step B H (upd B q u) H1 :=
  Step.share ⟨Ex.refl B, x1, x2, fun _ h _ => h⟩ h0 h1 h2
/-- behind a write to an object that H does not have -/
theorem Ex.wr {H0 H1 : Hp} {q : Addr} {u : HO} (x : Ex H0 H1) (h : H0 q = none) : Ex H0 (upd H1 q u) := x.put h
/-- a text of three parts -/
theorem en_js3 {u v w : Str} (ha : EN X a σ B (Eq (.str u))) (hb : EN X b σ B (Eq (.str v))) (hc : EN X c σ B (Eq (.str w))) (hz : u.length + v.length + w.length ≤ sizeLine) : EN X (.JoinedStr [a, b, c] pos) σ B (Eq (.str (Str.empty ++ u ++ v ++ w))) := fun B1 H e1 e2 Q k =>
  RE.of (pe_joined (.cons cE (.cons cE (.cons cE .nil)))) (ha B1 H e1 e2 _ fun x1 d1 B2 H2 s1 q1 r1 => by
    subst q1
    refine ⟨u, Rp.str.mp r1, by simp only [Str.length_append]; have : Str.empty.length = 0 := rfl; omega, hb B2 H2 (e1.trans s1.b) s1.bh _ fun x2 d2 B3 H3 s2 q2 r2 => ?_⟩
    subst q2
    refine ⟨v, Rp.str.mp r2, by simp only [Str.length_append]; have : Str.empty.length = 0 := rfl; omega, hc B3 H3 ((e1.trans s1.b).trans s2.b) s2.bh _ fun x3 d3 B4 H4 s3 q3 r3 => ?_⟩
    subst q3
    refine ⟨w, Rp.str.mp r3, by simp only [Str.length_append]; have : Str.empty.length = 0 := rfl; omega, ?_⟩
    exact k _ _ B4 H4 ((s1.trans s2).trans s3) rfl (Rp.str.mpr rfl))
/-- some item of a list -/
theorem ix_lstM {ds : List Fx.D} {i : Int} (h0 : 0 ≤ i) (h1 : i < ds.length) : IxD X (.lst ds) (.int i) (fun d => d ∈ ds) := by
  have h2 : i.toNat < ds.length := by omega
  have e : L2.atI ds i = some ds[i.toNat] := by
    have e1 : ixN ds.length i = some i.toNat := by
      unfold ixN
      rw [if_pos h0]
      simp [h1]
    unfold L2.atI
    rw [e1]
    exact List.getElem?_eq_getElem h2
  obtain ⟨r, h, q⟩ := ix_lst (X := X) e
  exact ⟨r, h, fun v u B H Q x1 rx ry k => q v u B H Q x1 rx ry fun z d pd rd => k z d (pd ▸ List.getElem_mem h2) rd⟩
theorem Step.grow {H1 : Hp} (s : Step B H B' H') (x1 : Ex B' H1) (x2 : Ex H H1) : Step B H B' H1 := ⟨s.b, x1, x2, s.nw⟩
theorem OD.imp {g : Value → Value → Sem Value} {u v : Fx.D} {P' : Fx.D → Prop} (o : OD X g u v P) (q : ∀ d, P d → P' d) : OD X g u v P' := by
  obtain ⟨r, h, k⟩ := o
  exact ⟨r, h, fun v u B H Q e rx ry kk => k v u B H Q e rx ry fun z d B' H' s pd rd => kk z d B' H' s (q d pd) rd⟩
theorem IxD.imp {u v : Fx.D} {P' : Fx.D → Prop} (o : IxD X u v P) (q : ∀ d, P d → P' d) : IxD X u v P' := by
  obtain ⟨r, h, k⟩ := o
  exact ⟨r, h, fun v u B H Q e rx ry kk => k v u B H Q e rx ry fun z d pd rd => kk z d (q d pd) rd⟩
theorem ix_textM {z : Str} {i : Int} {Pc : Nat → Prop} (hz : z.length ≤ sizeLine) (h0 : 0 ≤ i) (h1 : i < z.length) (hp : ∀ c ∈ z.cps.toList, Pc c) : IxD X (.str z) (.int i) (fun d => ∃ c, d = .str ⟨#[c]⟩ ∧ Pc c) := by
  have h2 : i.toNat < z.cps.toList.length := by rw [Array.length_toList]; have : z.cps.size = z.length := rfl; omega
  have e : L2.atI z.cps.toList i = some z.cps.toList[i.toNat] := by
    have e1 : ixN z.cps.toList.length i = some i.toNat := by
      unfold ixN
      rw [if_pos h0, if_pos (by omega)]
    unfold L2.atI
    rw [e1]
    exact List.getElem?_eq_getElem h2
  exact IxD.imp (ix_text hz e) fun d q => ⟨_, q.symm, hp _ (List.getElem_mem h2)⟩
theorem all_of {α β : Type} {ds : List α} {es : List β} {Pe : β → Prop} (hl : es.length = ds.length) (h : ∀ (i : Nat) (d : α), ds[i]? = some d → ∃ e, es[i]? = some e ∧ Pe e) : ∀ e ∈ es, Pe e := fun e he => by
  obtain ⟨i, hi, q⟩ := List.mem_iff_getElem.mp he
  obtain ⟨e', h1, h2⟩ := h i _ (List.getElem?_eq_getElem (by omega))
  rw [List.getElem?_eq_getElem hi] at h1
  cases h1
  rw [← q]; exact h2
theorem choose_map {α β : Type} {g : α → β} {Q : α → Prop} : ∀ {es : List β}, (∀ e ∈ es, ∃ c, e = g c ∧ Q c) → ∃ cs : List α, es = cs.map g ∧ ∀ c ∈ cs, Q c
  | [], _ => ⟨[], rfl, fun _ h => nomatch h⟩
  | e :: es, h => by
    obtain ⟨c, rfl, hc⟩ := h e List.mem_cons_self
    obtain ⟨cs, rfl, hcs⟩ := choose_map (es := es) fun e he => h e (List.mem_cons_of_mem _ he)
    exact ⟨c :: cs, rfl, fun d hd => by
      rcases List.mem_cons.mp hd with q | q
      · rw [q]; exact hc
      · exact hcs d q⟩
theorem kit_self {K : PySem.W.Frag} {t : Value} : PySem.W.kitOne K t t = some true := by
  unfold PySem.W.kitOne
  rw [if_pos (beq_self_eq_true t)]
theorem kit_any1 {K : PySem.W.Frag} {t : Value} {r : List Value} : PySem.W.kitAny K t (t :: r) = some true := by
  unfold PySem.W.kitAny
  rw [kit_self]
theorem ixN_nat {n i : Nat} (h : i < n) : ixN n (i : Int) = some i := by
  unfold ixN
  rw [if_pos (by omega)]
  simp [h]
theorem atI_nat {α : Type} {ds : List α} {i : Nat} {d : α} (h : ds[i]? = some d) : L2.atI ds (i : Int) = some d := by
  have h2 : i < ds.length := (List.getElem?_eq_some_iff.mp h).1
  unfold L2.atI
  rw [ixN_nat h2]
  exact h
end
theorem bt_len : bootBuiltins ("len" : Str) = some (.builtin "len") := by decide +kernel
theorem bt_all : bootBuiltins ("all" : Str) = some (.builtin "all") := by decide +kernel
theorem bt_any : bootBuiltins ("any" : Str) = some (.builtin "any") := by decide +kernel
theorem bt_isinstance : bootBuiltins ("isinstance" : Str) = some (.builtin "isinstance") := by decide +kernel
theorem bt_abs : bootBuiltins ("abs" : Str) = some (.builtin "abs") := by decide +kernel
theorem bt_max : bootBuiltins ("max" : Str) = some (.builtin "max") := by decide +kernel
theorem bt_min : bootBuiltins ("min" : Str) = some (.builtin "min") := by decide +kernel
theorem bt_divmod : bootBuiltins ("divmod" : Str) = some (.builtin "divmod") := by decide +kernel
theorem bt_repr : bootBuiltins ("repr" : Str) = some (.builtin "repr") := by decide +kernel
theorem bt_sorted : bootBuiltins ("sorted" : Str) = some (.builtin "sorted") := by decide +kernel
theorem bt_int : bootBuiltins ("int" : Str) = some (.type "int") := by decide +kernel
theorem bt_bool : bootBuiltins ("bool" : Str) = some (.type "bool") := by decide +kernel
theorem bt_str : bootBuiltins ("str" : Str) = some (.type "str") := by decide +kernel
theorem bt_list : bootBuiltins ("list" : Str) = some (.type "list") := by decide +kernel
theorem bt_tuple : bootBuiltins ("tuple" : Str) = some (.type "tuple") := by decide +kernel
theorem bt_range : bootBuiltins ("range" : Str) = some (.type "range") := by decide +kernel
theorem bt_enumerate : bootBuiltins ("enumerate" : Str) = some (.type "enumerate") := by decide +kernel
theorem bt_zip : bootBuiltins ("zip" : Str) = some (.type "zip") := by decide +kernel
theorem bt_set : bootBuiltins ("set" : Str) = some (.type "set") := by decide +kernel
theorem bt_dict : bootBuiltins ("dict" : Str) = some (.type "dict") := by decide +kernel
theorem cd_isiS {X : Cx} {z : Str} : CD X (.builtin "isinstance") [.str z, .ty "str"] (Eq (.bl true)) := cd_isi (t := .type "str") rfl kit_self
theorem cd_isiO1 {X : Cx} {C : Addr} {fs : List (Str × Fx.D)} (h : OwnTy X.K C) : CD X (.builtin "isinstance") [.obj C fs, .ref C] (Eq (.bl true)) := cd_isiO (t := .ref C) ⟨rfl, h⟩ kit_self
end Fx
set_option Elab.async false
set_option linter.all false
set_option maxRecDepth 100000
set_option maxHeartbeats 2000000
/-! Fx, part 14: -i, two targets whose second is a new list, bases without an object. -/
namespace Fx
open PySem L2
open PySem.Spec PyProof.Rows
section
variable {X : Cx} {σ : L2.St} {B B' H H' : Hp} {x y m : Str} {p pos apos px py tpos : Pos} {e o a b c : Expr} {es : List Expr} {P Pa Pb : Fx.D → Prop} {PL : List Fx.D → Prop} {sts rest : List Stmt} {D : Ends}
theorem en_neg {i : Int} (h : EN X a σ B (Eq (.int i))) : EN X (.UnaryOp .USub a pos) σ B (Eq (.int (-i))) := fun B1 H e1 e2 Q k =>
  RE.of (pe_un un_neg cE) (h B1 H e1 e2 _ fun v d B' H' s q r => by
    subst q
    exact ⟨i, Rp.int.mp r, k _ _ B' H' s rfl (Rp.int.mpr rfl)⟩)
/-- a, b = e, (a new list): any names -/
theorem rb_asg2L {i j : Nat} {pt pt2 : Pos} {kt k2 : Nat} (hc : X.calm = true) (hN : X.N.Nodup) (ha : EN X a σ B Pa) (hb : EF X b σ B PL) (hx : Ex B H)
    (k : ∀ q ds vs w d B' H', Step B H B' H' → H q = none → B' q = none → H' q = some (.lst vs) → PL ds → RpL X.K B' ds vs → Pa d → Rp X.K B' d w → RB X rest ((σ.set i (some w)).set j (some (.ref q))) H' D)
    (hi : X.N[i]? = some x := by rfl) (hj : X.N[j]? = some y := by rfl) (hlx : Loc X.env.scope x := by first | exact Or.inl rfl | exact Or.inr rfl) (hly : Loc X.env.scope y := by first | exact Or.inl rfl | exact Or.inr rfl)
    (hfx : X.fn x = true ∨ X.env.scope.names.lookup x = some .local := by first | exact .inl rfl | exact .inr rfl) (hfy : X.fn y = true ∨ X.env.scope.names.lookup y = some .local := by first | exact .inl rfl | exact .inr rfl)
    (hs : swapsWithSole [.Tuple [.Name x px, .Name y py] kt pt] (.Tuple [a, b] k2 pt2) pos.line X.env = pure false := by rfl) (hw : swappedStores [.Tuple [.Name x px, .Name y py] kt pt] (.Tuple [a, b] k2 pt2) X.env = pure none := by rfl)
    (h1 : (assignEach [.Tuple [.Name x px, .Name y py] kt pt] X.env).map (·.2) = [assign (.Tuple [.Name x px, .Name y py] kt pt) X.env] := by rfl)
    (hs1 : starEach [a, b] X.env = (false, eval a X.env) :: starEach [b] X.env := by rfl) (hs2 : starEach [b] X.env = (false, eval b X.env) :: starEach [] X.env := by rfl)
    (hn : (assignEach [.Name x px, .Name y py] X.env).length = 2 := by rfl) (hst : (assignEach [.Name x px, .Name y py] X.env).findIdx? (·.1) = none := by rfl)
    (hq1 : (assignEach [.Name x px, .Name y py] X.env).map (·.2) = assign (.Name x px) X.env :: (assignEach [.Name y py] X.env).map (·.2) := by rfl) (hq2 : (assignEach [.Name y py] X.env).map (·.2) = assign (.Name y py) X.env :: (assignEach [] X.env).map (·.2) := by rfl) :
    RB X (.Assign [.Tuple [.Name x px, .Name y py] kt pt] (.Tuple [a, b] k2 pt2) pos :: rest) σ H D :=
  rb_cons (RS.of (ps_asg (pe_tup (pa_cons cE (pa_cons cE pa_nil hs2) hs1)) (pg_tup (n := 2) hc (pgs_cons (pg_name hN hi hlx hfx) (pgs_cons (pg_name hN hj hly hfy) pgs_nil hq2) hq1) hn hst) hs hw h1)
    (ha B H (Ex.refl B) hx _ fun w d B1 H1 s1 pd rd => hb B1 H1 s1.b s1.bh _ fun q ds vs B2 H2 s2 n0 n1 h2 pl r => by
      refine ⟨by show 2 ≤ sizeLine; decide, fun t ht => ⟨t, _, rfl, SqT.of upd_same, rfl, w, [.ref q], rfl, .ref q, [], rfl, rfl, ?_⟩⟩
      have st := (s1.trans s2).trans (Step.own (o := .tup [w, .ref q]) s2.bh ht)
      exact k q ds vs w d B2 _ st (s1.h.back n0) n1 (by rw [upd_ne (ne_of_none h2 ht)]; exact h2) pl r pd (rd.mono s2.b)))
/-- the base without q -/
def off (B : Hp) (q : Addr) : Hp := fun a => if a = q then none else B a
theorem off_ne {B : Hp} {q a : Addr} (h : a ≠ q) : off B q a = B a := if_neg h
theorem off_self {B : Hp} {q : Addr} : off B q q = none := if_pos rfl
theorem Step.off {q : Addr} {u : HO} (s : Step (upd B q u) H B' H') (h : B q = none) : Step B H (off B' q) H' :=
  ⟨fun a o ha => by
    have n : a ≠ q := ne_of_none ha h
    rw [off_ne n]; exact s.b a o (by rw [upd_ne n]; exact ha), fun a o ha => by
    by_cases n : a = q
    · subst n; rw [off_self] at ha; cases ha
    · rw [off_ne n] at ha; exact s.bh a o ha, s.h, fun a h1 h2 => by
    by_cases n : a = q
    · subst n; exact off_self
    · rw [off_ne n]; exact s.nw a (by rw [upd_ne n]; exact h1) h2⟩
/-- a list of texts does not stand at q, where other things stand -/
theorem Rp.off {K : PySem.W.Frag} {q : Addr} {ws : List Str} {vs : List V} {v : V} (r : Rp K B (.lst (Fx.D.strs ws)) v) (h : B q = some (.lst vs)) (hne : vs ≠ ws.map V.str) : Rp K (off B q) (.lst (Fx.D.strs ws)) v := by
  obtain ⟨a, xs, rfl, h1, h2⟩ := Rp.lst.mp r
  cases h2.toStrs
  have n : a ≠ q := fun z => hne (by subst z; rw [h1] at h; cases h; rfl)
  exact Rp.lst.mpr ⟨a, _, rfl, by rw [off_ne n]; exact h1, RpL.strs.mpr rfl⟩
end
end Fx
set_option Elab.async false
set_option linter.all false
set_option maxRecDepth 100000
set_option maxHeartbeats 4000000
namespace Fk
open PySem L2 Fx
/-- a NAME -/
def Nm (z : Str) : Prop := 1 ≤ z.length ∧ z.length ≤ 8 ∧ ∀ c ∈ z.cps.toList, 97 ≤ c ∧ c ≤ 122
abbrev abc : Str := "abcdefghijklmnopqrstuvwxyz"
theorem abc_list : abc.cps.toList = (List.range 26).map (97 + ·) := by decide +kernel
theorem abc_mem {c : Nat} (h : 97 ≤ c) (h2 : c ≤ 122) : c ∈ abc.cps.toList := by
  rw [abc_list, List.mem_map]
  exact ⟨c - 97, List.mem_range.mpr (by omega), by omega⟩
theorem abc_at {i : Nat} (h : i < 26) : abc.cps.toList[i]? = some (97 + i) := by
  rw [abc_list, List.getElem?_map, List.getElem?_range h]; rfl
theorem len_list (z : Str) : z.length = z.cps.toList.length := (Array.length_toList).symm
theorem join_cons2 (s x y : Str) (r : List Str) : Str.join s (x :: y :: r) = x ++ s ++ Str.join s (y :: r) := rfl
theorem join_list : ∀ ws : List Str, (Str.join ("" : Str) ws).cps.toList = (ws.map (·.cps.toList)).flatten
  | [] => rfl
  | [x] => by show x.cps.toList = _; simp
  | x :: y :: r => by
    have ih := join_list (y :: r)
    rw [join_cons2]
    show ((x.cps ++ ("" : Str).cps) ++ (Str.join "" (y :: r)).cps).toList = _
    rw [Array.toList_append, Array.toList_append, ih]
    have e : ("" : Str).cps.toList = [] := by decide +kernel
    rw [e]
    simp
theorem join_ones (cs : List Nat) : (Txt.join ("" : Str) (cs.map fun c => (⟨#[c]⟩ : Str))).cps.toList = cs := by
  show (Builtin.Str.glued ("" : Str) _).cps.toList = _
  rw [StrLaws.glued_eq_join, join_list, List.map_map]
  induction cs with
  | nil => rfl
  | cons c cs ih => simpa using ih
theorem sum_ones (cs : List Nat) : ((cs.map fun c => (⟨#[c]⟩ : Str)).map (·.length)).sum = cs.length := by
  induction cs with
  | nil => rfl
  | cons c cs ih =>
    simp only [List.map_cons, List.sum_cons, List.length_cons] at ih ⊢
    rw [ih]
    show 1 + cs.length = _
    omega
theorem nm_of {cs : List Nat} {z : Str} (h : z.cps.toList = cs) (h1 : 1 ≤ cs.length) (h2 : cs.length ≤ 8) (h3 : ∀ c ∈ cs, 97 ≤ c ∧ c ≤ 122) : Nm z := by
  subst h
  exact ⟨by rw [len_list]; exact h1, by rw [len_list]; exact h2, h3⟩
theorem cutS_to (z : Str) (n : Nat) : (cutS z none (some (n : Int))).cps.toList = z.cps.toList.take n := by
  unfold cutS
  rw [HT.sIx_none, HT.sIx_nat, List.drop_zero, Nat.sub_zero, len_list]
  by_cases h : n ≤ z.cps.toList.length
  · rw [Nat.min_eq_left h]
  · rw [Nat.min_eq_right (by omega), List.take_of_length_le (Nat.le_refl _), List.take_of_length_le (by omega : z.cps.toList.length ≤ n)]
theorem app_list (x y : Str) : (x ++ y).cps.toList = x.cps.toList ++ y.cps.toList := Array.toList_append
theorem nm_near {z s : Str} {c : Nat} (hz : Nm z) (hs : s.cps.toList = [c]) (hc : 97 ≤ c ∧ c ≤ 122) : Nm (cutS z none (some 7) ++ s) := by
  have e : (cutS z none (some 7) ++ s).cps.toList = z.cps.toList.take 7 ++ [c] := by
    rw [app_list, hs]
    exact congrArg (· ++ [c]) (cutS_to z 7)
  refine nm_of e (by simp) (by simp; omega) fun d hd => ?_
  rcases List.mem_append.mp hd with h | h
  · exact hz.2.2 d (List.mem_of_mem_take h)
  · cases List.mem_singleton.mp h; exact hc
theorem nm_first {z : Str} (hz : Nm z) : Nm (cutS z none (some 1)) := by
  have hl := hz.1
  have hl' := hl
  rw [len_list] at hl'
  have e : (cutS z none (some 1)).cps.toList = z.cps.toList.take 1 := cutS_to z 1
  refine nm_of e (by simp only [List.length_take]; omega) (by simp only [List.length_take]; omega) fun d hd => hz.2.2 d (List.mem_of_mem_take hd)
theorem str_ext {a b : Str} (h : a.cps.toList = b.cps.toList) : a = b := by
  cases a; cases b
  exact congrArg Str.mk (Array.toList_inj.mp h)
/-- a longer list without repeats has an item that is not in the other one -/
theorem fresh {α : Type} [DecidableEq α] : ∀ {l m : List α}, l.Nodup → m.length < l.length → ∃ x ∈ l, x ∉ m
  | [], _, _, h => absurd h (Nat.not_lt_zero _)
  | a :: l, m, nd, h => by
    obtain ⟨na, nd⟩ := List.nodup_cons.mp nd
    by_cases ha : a ∈ m
    · obtain ⟨x, hx, hm⟩ := fresh (l := l) (m := m.erase a) nd (by rw [List.length_erase_of_mem ha]; have := List.length_pos_of_mem ha; simp at h; omega)
      refine ⟨x, List.mem_cons_of_mem _ hx, fun z => hm ?_⟩
      exact (List.mem_erase_of_ne (fun (e : x = a) => na (e ▸ hx))).mpr z
    · exact ⟨a, List.mem_cons_self, ha⟩
theorem nears_nodup (z : Str) : ((signs abc).map fun d => match d with | .str s => cutS z none (some 7) ++ s | _ => z).Nodup := by
  unfold signs
  rw [List.map_map, abc_list, List.map_map]
  rw [List.Nodup, List.pairwise_map]
  refine List.Pairwise.imp (R := fun a b => a ≠ b) (fun {a b} hab e => ?_) List.nodup_range
  have e1 := congrArg (fun s : Str => s.cps.toList) e
  have e2 : (cutS z none (some 7)).cps.toList ++ [97 + a] = (cutS z none (some 7)).cps.toList ++ [97 + b] := by
    have := e1
    simp only [Function.comp, app_list] at this
    exact this
  have e3 := List.append_cancel_left e2
  simp at e3
  exact hab e3
end Fk
set_option Elab.async false
set_option linter.all false
set_option maxRecDepth 100000
set_option maxHeartbeats 4000000
/-! Law k14: the text by places, what the top has written. -/
namespace Fk
open PySem L2 Fx
abbrev top (i : Nat) : Stmt := PySem.Challenge.pw_fixrest_k14_order_of_rows.main.body.getD i (.Pass ⟨0, 0, 0, 0⟩)
abbrev s_is_list : Stmt := top 14
abbrev s_is_name : Stmt := top 15
abbrev s_want_few_runs : Stmt := top 16
abbrev s_l_pot : Stmt := top 19
abbrev s_l_draw : Stmt := top 20
abbrev s_l_pick : Stmt := top 21
abbrev s_l_labels : Stmt := top 22
abbrev s_l_ahead : Stmt := top 23
abbrev s_l_lesser : Stmt := top 24
abbrev s_l_near_labels : Stmt := top 25
abbrev s_l_bent : Stmt := top 26
abbrev s_l_right : Stmt := top 27
abbrev s_law : Stmt := top 28
abbrev s_Row_init : Stmt := inClass (top 17) 1
abbrev s_Row_is_ahead : Stmt := inClass (top 17) 5
abbrev s_Row_eq : Stmt := inClass (top 17) 22
abbrev s_Row_repr : Stmt := inClass (top 17) 24
/-- 0:value -/
abbrev N_is_list : List Str := ["value"]
theorem sc_is_list : FnScope N_is_list ["value"] (defScope s_is_list) := ⟨rfl, rfl, rfl, by decide +kernel, rfl, by decide +kernel, by decide +kernel⟩
/-- 0:value 1:sign -/
abbrev N_is_name : List Str := ["value", "sign"]
theorem sc_is_name : FnScope N_is_name ["value"] (defScope s_is_name) := ⟨rfl, rfl, rfl, by decide +kernel, rfl, by decide +kernel, by decide +kernel⟩
/-- 0:many -/
abbrev N_want_few_runs : List Str := ["many"]
theorem sc_want_few_runs : FnScope N_want_few_runs ["many"] (defScope s_want_few_runs) := ⟨rfl, rfl, rfl, by decide +kernel, rfl, by decide +kernel, by decide +kernel⟩
/-- 0:_law_script 1:_law_k 2:_law_cell -/
abbrev N_l_pot : List Str := ["_law_script", "_law_k", "_law_cell"]
theorem sc_l_pot : FnScope N_l_pot ["_law_script", "_law_k"] (defScope s_l_pot) := ⟨rfl, rfl, rfl, by decide +kernel, rfl, by decide +kernel, by decide +kernel⟩
/-- 0:_law_pot_here 1:_law_many 2:_law_digit -/
abbrev N_l_draw : List Str := ["_law_pot_here", "_law_many", "_law_digit"]
theorem sc_l_draw : FnScope N_l_draw ["_law_pot_here", "_law_many"] (defScope s_l_draw) := ⟨rfl, rfl, rfl, by decide +kernel, rfl, by decide +kernel, by decide +kernel⟩
/-- 0:_law_pot_here 1:_law_some -/
abbrev N_l_pick : List Str := ["_law_pot_here", "_law_some"]
theorem sc_l_pick : FnScope N_l_pick ["_law_pot_here", "_law_some"] (defScope s_l_pick) := ⟨rfl, rfl, rfl, by decide +kernel, rfl, by decide +kernel, by decide +kernel⟩
/-- 0:_law_pot_here 1:_law_many 2:_law_found 3:_law_signs 4:_law_k 5:_law_label 6:_law_spare 7:_law_turn 8:_law_sign 9:_law_near -/
abbrev N_l_labels : List Str := ["_law_pot_here", "_law_many", "_law_found", "_law_signs", "_law_k", "_law_label", "_law_spare", "_law_turn", "_law_sign", "_law_near"]
theorem sc_l_labels : FnScope N_l_labels ["_law_pot_here", "_law_many"] (defScope s_l_labels) := ⟨rfl, rfl, rfl, by decide +kernel, rfl, by decide +kernel, by decide +kernel⟩
/-- 0:_law_one_word 1:_law_two_word 2:_law_near 3:_law_far -/
abbrev N_l_ahead : List Str := ["_law_one_word", "_law_two_word", "_law_near", "_law_far"]
theorem sc_l_ahead : FnScope N_l_ahead ["_law_one_word", "_law_two_word"] (defScope s_l_ahead) := ⟨rfl, rfl, rfl, by decide +kernel, rfl, by decide +kernel, by decide +kernel⟩
/-- 0:_law_near 1:_law_far 2:_law_signs 3:_law_k -/
abbrev N_l_lesser : List Str := ["_law_near", "_law_far", "_law_signs", "_law_k"]
theorem sc_l_lesser : FnScope N_l_lesser ["_law_near", "_law_far"] (defScope s_l_lesser) := ⟨rfl, rfl, rfl, by decide +kernel, rfl, by decide +kernel, by decide +kernel⟩
/-- 0:_law_pot_here 1:_law_labels_here 2:_law_found 3:_law_label 4:_law_near -/
abbrev N_l_near_labels : List Str := ["_law_pot_here", "_law_labels_here", "_law_found", "_law_label", "_law_near"]
theorem sc_l_near_labels : FnScope N_l_near_labels ["_law_pot_here"] (defScope s_l_near_labels) := ⟨rfl, rfl, rfl, by decide +kernel, rfl, by decide +kernel, by decide +kernel⟩
/-- 0:_law_pot_here 1:_law_word 2:_law_labels_here 3:_law_at 4:_law_way -/
abbrev N_l_bent : List Str := ["_law_pot_here", "_law_word", "_law_labels_here", "_law_at", "_law_way"]
theorem sc_l_bent : FnScope N_l_bent ["_law_pot_here", "_law_word", "_law_labels_here"] (defScope s_l_bent) := ⟨rfl, rfl, rfl, by decide +kernel, rfl, by decide +kernel, by decide +kernel⟩
/-- 0:_law_pot_here 1:_law_labels_here 2:_law_words 3:_law_turn 4:_law_rows 5:_law_made 6:_law_word 7:_law_told 8:_law_due 9:_law_mate 10:_law_other_word 11:_law_order 12:_law_at 13:_law_k -/
abbrev N_l_right : List Str := ["_law_pot_here", "_law_labels_here", "_law_words", "_law_turn", "_law_rows", "_law_made", "_law_word", "_law_told", "_law_due", "_law_mate", "_law_other_word", "_law_order", "_law_at", "_law_k"]
theorem sc_l_right : FnScope N_l_right ["_law_pot_here"] (defScope s_l_right) := ⟨rfl, rfl, rfl, by decide +kernel, rfl, by decide +kernel, by decide +kernel⟩
/-- 0:_law_script 1:_law_k -/
abbrev N_law : List Str := ["_law_script", "_law_k"]
theorem sc_law : FnScope N_law ["_law_script"] (defScope s_law) := ⟨rfl, rfl, rfl, by decide +kernel, rfl, by decide +kernel, by decide +kernel⟩
/-- 0:self 1:names 2:position 3:name -/
abbrev N_Row_init : List Str := ["self", "names", "position", "name"]
theorem sc_Row_init : FnScope N_Row_init ["self", "names"] (defScope s_Row_init) := ⟨rfl, rfl, rfl, by decide +kernel, rfl, by decide +kernel, by decide +kernel⟩
/-- 0:self 1:other -/
abbrev N_Row_is_ahead : List Str := ["self", "other"]
theorem sc_Row_is_ahead : FnScope N_Row_is_ahead ["self", "other"] (defScope s_Row_is_ahead) := ⟨rfl, rfl, rfl, by decide +kernel, rfl, by decide +kernel, by decide +kernel⟩
/-- 0:self 1:other -/
abbrev N_Row_eq : List Str := ["self", "other"]
theorem sc_Row_eq : FnScope N_Row_eq ["self", "other"] (defScope s_Row_eq) := ⟨rfl, rfl, rfl, by decide +kernel, rfl, by decide +kernel, by decide +kernel⟩
/-- 0:self -/
abbrev N_Row_repr : List Str := ["self"]
theorem sc_Row_repr : FnScope N_Row_repr ["self"] (defScope s_Row_repr) := ⟨rfl, rfl, rfl, by decide +kernel, rfl, by decide +kernel, by decide +kernel⟩
/-- what the top has written -/
structure Tx (K : PySem.W.Frag) (mg : Str → Option Value) : Type where
  a_is_list : Addr
  d_is_list : FuncData
  f_is_list : Fun K "is_list" "is_list" s_is_list a_is_list d_is_list
  b_is_list : Binds K d_is_list ["value"] []
  m_is_list : mg "is_list" = some (.ref a_is_list)
  a_is_name : Addr
  d_is_name : FuncData
  f_is_name : Fun K "is_name" "is_name" s_is_name a_is_name d_is_name
  b_is_name : Binds K d_is_name ["value"] []
  m_is_name : mg "is_name" = some (.ref a_is_name)
  a_want_few_runs : Addr
  d_want_few_runs : FuncData
  f_want_few_runs : Fun K "want_few_runs" "want_few_runs" s_want_few_runs a_want_few_runs d_want_few_runs
  b_want_few_runs : Binds K d_want_few_runs ["many"] []
  m_want_few_runs : mg "want_few_runs" = some (.ref a_want_few_runs)
  a_l_pot : Addr
  d_l_pot : FuncData
  f_l_pot : Fun K "_law_pot" "_law_pot" s_l_pot a_l_pot d_l_pot
  b_l_pot : Binds K d_l_pot ["_law_script", "_law_k"] []
  m_l_pot : mg "_law_pot" = some (.ref a_l_pot)
  a_l_draw : Addr
  d_l_draw : FuncData
  f_l_draw : Fun K "_law_draw" "_law_draw" s_l_draw a_l_draw d_l_draw
  b_l_draw : Binds K d_l_draw ["_law_pot_here", "_law_many"] []
  m_l_draw : mg "_law_draw" = some (.ref a_l_draw)
  a_l_pick : Addr
  d_l_pick : FuncData
  f_l_pick : Fun K "_law_pick" "_law_pick" s_l_pick a_l_pick d_l_pick
  b_l_pick : Binds K d_l_pick ["_law_pot_here", "_law_some"] []
  m_l_pick : mg "_law_pick" = some (.ref a_l_pick)
  a_l_labels : Addr
  d_l_labels : FuncData
  f_l_labels : Fun K "_law_labels" "_law_labels" s_l_labels a_l_labels d_l_labels
  b_l_labels : Binds K d_l_labels ["_law_pot_here", "_law_many"] []
  m_l_labels : mg "_law_labels" = some (.ref a_l_labels)
  a_l_ahead : Addr
  d_l_ahead : FuncData
  f_l_ahead : Fun K "_law_ahead" "_law_ahead" s_l_ahead a_l_ahead d_l_ahead
  b_l_ahead : Binds K d_l_ahead ["_law_one_word", "_law_two_word"] []
  m_l_ahead : mg "_law_ahead" = some (.ref a_l_ahead)
  a_l_lesser : Addr
  d_l_lesser : FuncData
  f_l_lesser : Fun K "_law_lesser" "_law_lesser" s_l_lesser a_l_lesser d_l_lesser
  b_l_lesser : Binds K d_l_lesser ["_law_near", "_law_far"] []
  m_l_lesser : mg "_law_lesser" = some (.ref a_l_lesser)
  a_l_near_labels : Addr
  d_l_near_labels : FuncData
  f_l_near_labels : Fun K "_law_near_labels" "_law_near_labels" s_l_near_labels a_l_near_labels d_l_near_labels
  b_l_near_labels : Binds K d_l_near_labels ["_law_pot_here"] []
  m_l_near_labels : mg "_law_near_labels" = some (.ref a_l_near_labels)
  a_l_bent : Addr
  d_l_bent : FuncData
  f_l_bent : Fun K "_law_bent" "_law_bent" s_l_bent a_l_bent d_l_bent
  b_l_bent : Binds K d_l_bent ["_law_pot_here", "_law_word", "_law_labels_here"] []
  m_l_bent : mg "_law_bent" = some (.ref a_l_bent)
  a_l_right : Addr
  d_l_right : FuncData
  f_l_right : Fun K "_law_right" "_law_right" s_l_right a_l_right d_l_right
  b_l_right : Binds K d_l_right ["_law_pot_here"] []
  m_l_right : mg "_law_right" = some (.ref a_l_right)
  a_law : Addr
  d_law : FuncData
  f_law : Fun K "law" "law" s_law a_law d_law
  b_law : Binds K d_law ["_law_script"] []
  m_law : mg "law" = some (.ref a_law)
  bl_law : ∀ (s : Shared) (u : Value), BindsTo s d_law ⟨[u], []⟩ [("_law_script", u)]
  a_Row_init : Addr
  d_Row_init : FuncData
  f_Row_init : FunA K "__init__" "Row.__init__" s_Row_init a_Row_init d_Row_init
  b_Row_init : Binds K d_Row_init ["self", "names"] []
  a_Row_is_ahead : Addr
  d_Row_is_ahead : FuncData
  f_Row_is_ahead : Fun K "is_ahead" "Row.is_ahead" s_Row_is_ahead a_Row_is_ahead d_Row_is_ahead
  b_Row_is_ahead : Binds K d_Row_is_ahead ["self", "other"] []
  bk_Row_is_ahead : ∀ (s : Shared) (u w : Value), K.In s.heap → BindsTo s d_Row_is_ahead ⟨[u], [("other", w)]⟩ ((["self", "other"] : List Str).zip [u, w])
  a_Row_eq : Addr
  d_Row_eq : FuncData
  f_Row_eq : Fun K "__eq__" "Row.__eq__" s_Row_eq a_Row_eq d_Row_eq
  b_Row_eq : Binds K d_Row_eq ["self", "other"] []
  a_Row_repr : Addr
  d_Row_repr : FuncData
  f_Row_repr : Fun K "__repr__" "Row.__repr__" s_Row_repr a_Row_repr d_Row_repr
  b_Row_repr : Binds K d_Row_repr ["self"] []
  C_Row : Addr
  m_Row : mg "Row" = some (.ref C_Row)
  own_Row : OwnTy K C_Row
  n_Row_own_names : NoAttr K C_Row "own_names"
  mk_Row : Mk K C_Row a_Row_init
  me_Row_is_ahead : Meth K C_Row "is_ahead" a_Row_is_ahead
  sp_Row_eq : Spc K C_Row "__eq__" a_Row_eq
  sp_Row_repr : Spc K C_Row "__repr__" a_Row_repr
  z_isinstance : mg "isinstance" = none
  z_list : mg "list" = none
  z_tuple : mg "tuple" = none
  z_str : mg "str" = none
  z_len : mg "len" = none
  z_all : mg "all" = none
  z_enumerate : mg "enumerate" = none
  z_abs : mg "abs" = none
  z_max : mg "max" = none
  z_int : mg "int" = none
  z_divmod : mg "divmod" = none
  z_range : mg "range" = none
  z_zip : mg "zip" = none
  z_min : mg "min" = none
  z_repr : mg "repr" = none
  z_any : mg "any" = none
  c_LETTERS : ∃ t, mg "LETTERS" = some (.str "abcdefghijklmnopqrstuvwxyz" t)
  c_MOST_LETTERS : ∃ t, mg "MOST_LETTERS" = some (.int 8 t)
  c_MOST_RUNS : ∃ t, mg "MOST_RUNS" = some (.int 400 t)
theorem all_mk {K : PySem.W.Frag} {h : Heap} {mg : Str → Option Value} {fa : Addr} (X : K.In h) (G : h.Ns mainGlobals mg) (hfa : mg "law" = some (.ref fa))
    {a_is_list a_is_name a_want_few_runs a_l_pot a_l_draw a_l_pick a_l_labels a_l_ahead a_l_lesser a_l_near_labels a_l_bent a_l_right a_law a_Row_init T_Row_init a_Row_is_ahead a_Row_eq a_Row_repr C_Row : Addr} {od_is_list an_is_list od_is_name an_is_name od_want_few_runs an_want_few_runs od_l_pot an_l_pot od_l_draw an_l_draw od_l_pick an_l_pick od_l_labels an_l_labels od_l_ahead an_l_ahead od_l_lesser an_l_lesser od_l_near_labels an_l_near_labels od_l_bent an_l_bent od_l_right an_l_right od_law an_law od_Row_init an_Row_init dT_Row_init od_Row_is_ahead an_Row_is_ahead od_Row_eq an_Row_eq od_Row_repr an_Row_repr : Option Addr} {sl_is_list sl_is_name sl_want_few_runs sl_l_pot sl_l_draw sl_l_pick sl_l_labels sl_l_ahead sl_l_lesser sl_l_near_labels sl_l_bent sl_l_right sl_law sl_Row_init sT_Row_init sl_Row_is_ahead sl_Row_eq sl_Row_repr : Array (Option Value)} {oc_is_list kV_is_list dc_is_list pm_is_list cd_is_list ct_is_list oc_is_name kV_is_name dc_is_name pm_is_name cd_is_name ct_is_name oc_want_few_runs kV_want_few_runs dc_want_few_runs pm_want_few_runs cd_want_few_runs ct_want_few_runs oc_l_pot kV_l_pot dc_l_pot pm_l_pot cd_l_pot ct_l_pot oc_l_draw kV_l_draw dc_l_draw pm_l_draw cd_l_draw ct_l_draw oc_l_pick kV_l_pick dc_l_pick pm_l_pick cd_l_pick ct_l_pick oc_l_labels kV_l_labels dc_l_labels pm_l_labels cd_l_labels ct_l_labels oc_l_ahead kV_l_ahead dc_l_ahead pm_l_ahead cd_l_ahead ct_l_ahead oc_l_lesser kV_l_lesser dc_l_lesser pm_l_lesser cd_l_lesser ct_l_lesser oc_l_near_labels kV_l_near_labels dc_l_near_labels pm_l_near_labels cd_l_near_labels ct_l_near_labels oc_l_bent kV_l_bent dc_l_bent pm_l_bent cd_l_bent ct_l_bent oc_l_right kV_l_right dc_l_right pm_l_right cd_l_right ct_l_right oc_law kV_law dc_law pm_law cd_law ct_law oc_Row_init kV_Row_init dc_Row_init pm_Row_init cd_Row_init ct_Row_init cT_Row_init dv0_Row_init oc_Row_is_ahead kV_Row_is_ahead dc_Row_is_ahead pm_Row_is_ahead cd_Row_is_ahead ct_Row_is_ahead oc_Row_eq kV_Row_eq dc_Row_eq pm_Row_eq cd_Row_eq ct_Row_eq oc_Row_repr kV_Row_repr dc_Row_repr pm_Row_repr cd_Row_repr ct_Row_repr : Value}
    {nT_Row_init : Nat}
    {tk_LETTERS tk_MOST_LETTERS tk_MOST_RUNS : Tok}
    (gC_Row : PySem.W.nsIn K mainGlobals "Row" = some (some (.ref C_Row)))
    (g_is_list : PySem.W.nsIn K mainGlobals "is_list" = some (some (.ref a_is_list)))
    (l_is_list : K.lookup a_is_list = some ⟨oc_is_list, od_is_list, .func (PySem.W.fnOf "is_list" "is_list" (defArgs s_is_list) (defBody s_is_list) (defScope s_is_list) .none kV_is_list dc_is_list pm_is_list an_is_list cd_is_list ct_is_list), sl_is_list⟩)
    (c_is_list : PySem.W.codeIn K cd_is_list "is_list" = true)
    (k_is_list : PySem.W.keepIn K (.ref a_is_list) = true)
    (g_is_name : PySem.W.nsIn K mainGlobals "is_name" = some (some (.ref a_is_name)))
    (l_is_name : K.lookup a_is_name = some ⟨oc_is_name, od_is_name, .func (PySem.W.fnOf "is_name" "is_name" (defArgs s_is_name) (defBody s_is_name) (defScope s_is_name) .none kV_is_name dc_is_name pm_is_name an_is_name cd_is_name ct_is_name), sl_is_name⟩)
    (c_is_name : PySem.W.codeIn K cd_is_name "is_name" = true)
    (k_is_name : PySem.W.keepIn K (.ref a_is_name) = true)
    (g_want_few_runs : PySem.W.nsIn K mainGlobals "want_few_runs" = some (some (.ref a_want_few_runs)))
    (l_want_few_runs : K.lookup a_want_few_runs = some ⟨oc_want_few_runs, od_want_few_runs, .func (PySem.W.fnOf "want_few_runs" "want_few_runs" (defArgs s_want_few_runs) (defBody s_want_few_runs) (defScope s_want_few_runs) .none kV_want_few_runs dc_want_few_runs pm_want_few_runs an_want_few_runs cd_want_few_runs ct_want_few_runs), sl_want_few_runs⟩)
    (c_want_few_runs : PySem.W.codeIn K cd_want_few_runs "want_few_runs" = true)
    (k_want_few_runs : PySem.W.keepIn K (.ref a_want_few_runs) = true)
    (g_l_pot : PySem.W.nsIn K mainGlobals "_law_pot" = some (some (.ref a_l_pot)))
    (l_l_pot : K.lookup a_l_pot = some ⟨oc_l_pot, od_l_pot, .func (PySem.W.fnOf "_law_pot" "_law_pot" (defArgs s_l_pot) (defBody s_l_pot) (defScope s_l_pot) .none kV_l_pot dc_l_pot pm_l_pot an_l_pot cd_l_pot ct_l_pot), sl_l_pot⟩)
    (c_l_pot : PySem.W.codeIn K cd_l_pot "_law_pot" = true)
    (k_l_pot : PySem.W.keepIn K (.ref a_l_pot) = true)
    (g_l_draw : PySem.W.nsIn K mainGlobals "_law_draw" = some (some (.ref a_l_draw)))
    (l_l_draw : K.lookup a_l_draw = some ⟨oc_l_draw, od_l_draw, .func (PySem.W.fnOf "_law_draw" "_law_draw" (defArgs s_l_draw) (defBody s_l_draw) (defScope s_l_draw) .none kV_l_draw dc_l_draw pm_l_draw an_l_draw cd_l_draw ct_l_draw), sl_l_draw⟩)
    (c_l_draw : PySem.W.codeIn K cd_l_draw "_law_draw" = true)
    (k_l_draw : PySem.W.keepIn K (.ref a_l_draw) = true)
    (g_l_pick : PySem.W.nsIn K mainGlobals "_law_pick" = some (some (.ref a_l_pick)))
    (l_l_pick : K.lookup a_l_pick = some ⟨oc_l_pick, od_l_pick, .func (PySem.W.fnOf "_law_pick" "_law_pick" (defArgs s_l_pick) (defBody s_l_pick) (defScope s_l_pick) .none kV_l_pick dc_l_pick pm_l_pick an_l_pick cd_l_pick ct_l_pick), sl_l_pick⟩)
    (c_l_pick : PySem.W.codeIn K cd_l_pick "_law_pick" = true)
    (k_l_pick : PySem.W.keepIn K (.ref a_l_pick) = true)
    (g_l_labels : PySem.W.nsIn K mainGlobals "_law_labels" = some (some (.ref a_l_labels)))
    (l_l_labels : K.lookup a_l_labels = some ⟨oc_l_labels, od_l_labels, .func (PySem.W.fnOf "_law_labels" "_law_labels" (defArgs s_l_labels) (defBody s_l_labels) (defScope s_l_labels) .none kV_l_labels dc_l_labels pm_l_labels an_l_labels cd_l_labels ct_l_labels), sl_l_labels⟩)
    (c_l_labels : PySem.W.codeIn K cd_l_labels "_law_labels" = true)
    (k_l_labels : PySem.W.keepIn K (.ref a_l_labels) = true)
    (g_l_ahead : PySem.W.nsIn K mainGlobals "_law_ahead" = some (some (.ref a_l_ahead)))
    (l_l_ahead : K.lookup a_l_ahead = some ⟨oc_l_ahead, od_l_ahead, .func (PySem.W.fnOf "_law_ahead" "_law_ahead" (defArgs s_l_ahead) (defBody s_l_ahead) (defScope s_l_ahead) .none kV_l_ahead dc_l_ahead pm_l_ahead an_l_ahead cd_l_ahead ct_l_ahead), sl_l_ahead⟩)
    (c_l_ahead : PySem.W.codeIn K cd_l_ahead "_law_ahead" = true)
    (k_l_ahead : PySem.W.keepIn K (.ref a_l_ahead) = true)
    (g_l_lesser : PySem.W.nsIn K mainGlobals "_law_lesser" = some (some (.ref a_l_lesser)))
    (l_l_lesser : K.lookup a_l_lesser = some ⟨oc_l_lesser, od_l_lesser, .func (PySem.W.fnOf "_law_lesser" "_law_lesser" (defArgs s_l_lesser) (defBody s_l_lesser) (defScope s_l_lesser) .none kV_l_lesser dc_l_lesser pm_l_lesser an_l_lesser cd_l_lesser ct_l_lesser), sl_l_lesser⟩)
    (c_l_lesser : PySem.W.codeIn K cd_l_lesser "_law_lesser" = true)
    (k_l_lesser : PySem.W.keepIn K (.ref a_l_lesser) = true)
    (g_l_near_labels : PySem.W.nsIn K mainGlobals "_law_near_labels" = some (some (.ref a_l_near_labels)))
    (l_l_near_labels : K.lookup a_l_near_labels = some ⟨oc_l_near_labels, od_l_near_labels, .func (PySem.W.fnOf "_law_near_labels" "_law_near_labels" (defArgs s_l_near_labels) (defBody s_l_near_labels) (defScope s_l_near_labels) .none kV_l_near_labels dc_l_near_labels pm_l_near_labels an_l_near_labels cd_l_near_labels ct_l_near_labels), sl_l_near_labels⟩)
    (c_l_near_labels : PySem.W.codeIn K cd_l_near_labels "_law_near_labels" = true)
    (k_l_near_labels : PySem.W.keepIn K (.ref a_l_near_labels) = true)
    (g_l_bent : PySem.W.nsIn K mainGlobals "_law_bent" = some (some (.ref a_l_bent)))
    (l_l_bent : K.lookup a_l_bent = some ⟨oc_l_bent, od_l_bent, .func (PySem.W.fnOf "_law_bent" "_law_bent" (defArgs s_l_bent) (defBody s_l_bent) (defScope s_l_bent) .none kV_l_bent dc_l_bent pm_l_bent an_l_bent cd_l_bent ct_l_bent), sl_l_bent⟩)
    (c_l_bent : PySem.W.codeIn K cd_l_bent "_law_bent" = true)
    (k_l_bent : PySem.W.keepIn K (.ref a_l_bent) = true)
    (g_l_right : PySem.W.nsIn K mainGlobals "_law_right" = some (some (.ref a_l_right)))
    (l_l_right : K.lookup a_l_right = some ⟨oc_l_right, od_l_right, .func (PySem.W.fnOf "_law_right" "_law_right" (defArgs s_l_right) (defBody s_l_right) (defScope s_l_right) .none kV_l_right dc_l_right pm_l_right an_l_right cd_l_right ct_l_right), sl_l_right⟩)
    (c_l_right : PySem.W.codeIn K cd_l_right "_law_right" = true)
    (k_l_right : PySem.W.keepIn K (.ref a_l_right) = true)
    (g_law : PySem.W.nsIn K mainGlobals "law" = some (some (.ref a_law)))
    (l_law : K.lookup a_law = some ⟨oc_law, od_law, .func (PySem.W.fnOf "law" "law" (defArgs s_law) (defBody s_law) (defScope s_law) .none kV_law dc_law pm_law an_law cd_law ct_law), sl_law⟩)
    (c_law : PySem.W.codeIn K cd_law "law" = true)
    (k_law : PySem.W.keepIn K (.ref a_law) = true)
    (g_Row_init : PySem.W.findIn K (.ref C_Row) "__init__" = some (some (.ref a_Row_init)))
    (i_Row_init : PySem.W.isFn K (.ref a_Row_init) = true)
    (l_Row_init : K.lookup a_Row_init = some ⟨oc_Row_init, od_Row_init, .func (PySem.W.fnOf "__init__" "Row.__init__" (defArgs s_Row_init) (defBody s_Row_init) (defScope s_Row_init) (.ref T_Row_init) kV_Row_init dc_Row_init pm_Row_init an_Row_init cd_Row_init ct_Row_init), sl_Row_init⟩)
    (c_Row_init : PySem.W.codeIn K cd_Row_init "Row.__init__" = true)
    (k_Row_init : PySem.W.keepIn K (.ref a_Row_init) = true)
    (t_Row_init : K.lookup T_Row_init = some ⟨cT_Row_init, dT_Row_init, .seq #[dv0_Row_init] nT_Row_init, sT_Row_init⟩)
    (g_Row_is_ahead : PySem.W.findIn K (.ref C_Row) "is_ahead" = some (some (.ref a_Row_is_ahead)))
    (i_Row_is_ahead : PySem.W.isFn K (.ref a_Row_is_ahead) = true)
    (l_Row_is_ahead : K.lookup a_Row_is_ahead = some ⟨oc_Row_is_ahead, od_Row_is_ahead, .func (PySem.W.fnOf "is_ahead" "Row.is_ahead" (defArgs s_Row_is_ahead) (defBody s_Row_is_ahead) (defScope s_Row_is_ahead) .none kV_Row_is_ahead dc_Row_is_ahead pm_Row_is_ahead an_Row_is_ahead cd_Row_is_ahead ct_Row_is_ahead), sl_Row_is_ahead⟩)
    (c_Row_is_ahead : PySem.W.codeIn K cd_Row_is_ahead "Row.is_ahead" = true)
    (k_Row_is_ahead : PySem.W.keepIn K (.ref a_Row_is_ahead) = true)
    (g_Row_eq : PySem.W.findIn K (.ref C_Row) "__eq__" = some (some (.ref a_Row_eq)))
    (i_Row_eq : PySem.W.isFn K (.ref a_Row_eq) = true)
    (l_Row_eq : K.lookup a_Row_eq = some ⟨oc_Row_eq, od_Row_eq, .func (PySem.W.fnOf "__eq__" "Row.__eq__" (defArgs s_Row_eq) (defBody s_Row_eq) (defScope s_Row_eq) .none kV_Row_eq dc_Row_eq pm_Row_eq an_Row_eq cd_Row_eq ct_Row_eq), sl_Row_eq⟩)
    (c_Row_eq : PySem.W.codeIn K cd_Row_eq "Row.__eq__" = true)
    (k_Row_eq : PySem.W.keepIn K (.ref a_Row_eq) = true)
    (g_Row_repr : PySem.W.findIn K (.ref C_Row) "__repr__" = some (some (.ref a_Row_repr)))
    (i_Row_repr : PySem.W.isFn K (.ref a_Row_repr) = true)
    (l_Row_repr : K.lookup a_Row_repr = some ⟨oc_Row_repr, od_Row_repr, .func (PySem.W.fnOf "__repr__" "Row.__repr__" (defArgs s_Row_repr) (defBody s_Row_repr) (defScope s_Row_repr) .none kV_Row_repr dc_Row_repr pm_Row_repr an_Row_repr cd_Row_repr ct_Row_repr), sl_Row_repr⟩)
    (c_Row_repr : PySem.W.codeIn K cd_Row_repr "Row.__repr__" = true)
    (k_Row_repr : PySem.W.keepIn K (.ref a_Row_repr) = true)
    (pg_Row : PySem.W.plainGet K C_Row Str.empty = true)
    (hd_Row : PySem.W.hasDictIn K C_Row = true)
    (po_Row : PySem.W.plainOver K C_Row = true)
    (sa_Row : PySem.W.findIn K (.ref C_Row) "__setattr__" = some (some (.builtin "object.__setattr__")))
    (ha_Row : PySem.W.findIn K (.ref C_Row) "__class__" = some (some (.builtin "object.__class__")))
    (hn_Row : PySem.W.specialIn K (.builtin "object.__class__") "__get__" = some (some (.builtin "getset_descriptor.__get__")))
    (ht_Row : PySem.W.takesIn K (.builtin "object.__class__") = some true)
    (hm_Row : PySem.W.mroIn K C_Row (.type "object") = some true)
    (mk_Row : PySem.W.makesIn K C_Row = true)
    (kc_Row : PySem.W.keepIn K (.ref C_Row) = true)
    (n_Row_own_names : PySem.W.findIn K (.ref C_Row) "own_names" = some none)
    (z_isinstance : PySem.W.nsIn K mainGlobals "isinstance" = some none)
    (z_list : PySem.W.nsIn K mainGlobals "list" = some none)
    (z_tuple : PySem.W.nsIn K mainGlobals "tuple" = some none)
    (z_str : PySem.W.nsIn K mainGlobals "str" = some none)
    (z_len : PySem.W.nsIn K mainGlobals "len" = some none)
    (z_all : PySem.W.nsIn K mainGlobals "all" = some none)
    (z_enumerate : PySem.W.nsIn K mainGlobals "enumerate" = some none)
    (z_abs : PySem.W.nsIn K mainGlobals "abs" = some none)
    (z_max : PySem.W.nsIn K mainGlobals "max" = some none)
    (z_int : PySem.W.nsIn K mainGlobals "int" = some none)
    (z_divmod : PySem.W.nsIn K mainGlobals "divmod" = some none)
    (z_range : PySem.W.nsIn K mainGlobals "range" = some none)
    (z_zip : PySem.W.nsIn K mainGlobals "zip" = some none)
    (z_min : PySem.W.nsIn K mainGlobals "min" = some none)
    (z_repr : PySem.W.nsIn K mainGlobals "repr" = some none)
    (z_any : PySem.W.nsIn K mainGlobals "any" = some none)
    (v_LETTERS : PySem.W.nsIn K mainGlobals "LETTERS" = some (some (.str "abcdefghijklmnopqrstuvwxyz" tk_LETTERS)))
    (v_MOST_LETTERS : PySem.W.nsIn K mainGlobals "MOST_LETTERS" = some (some (.int 8 tk_MOST_LETTERS)))
    (v_MOST_RUNS : PySem.W.nsIn K mainGlobals "MOST_RUNS" = some (some (.int 400 tk_MOST_RUNS)))
    : ∃ T : Tx K mg, T.a_law = fa := by
  have e := hfa.symm.trans (PySem.W.mg_of X G g_law)
  cases e
  have F_is_list := fun_mk (st := s_is_list) l_is_list c_is_list k_is_list
  have B_is_list := F_is_list.binds (ps := ["value"]) fun _ _ _ _ _ _ us hl => match us, hl with | [_], _ => rfl
  have F_is_name := fun_mk (st := s_is_name) l_is_name c_is_name k_is_name
  have B_is_name := F_is_name.binds (ps := ["value"]) fun _ _ _ _ _ _ us hl => match us, hl with | [_], _ => rfl
  have F_want_few_runs := fun_mk (st := s_want_few_runs) l_want_few_runs c_want_few_runs k_want_few_runs
  have B_want_few_runs := F_want_few_runs.binds (ps := ["many"]) fun _ _ _ _ _ _ us hl => match us, hl with | [_], _ => rfl
  have F_l_pot := fun_mk (st := s_l_pot) l_l_pot c_l_pot k_l_pot
  have B_l_pot := F_l_pot.binds (ps := ["_law_script", "_law_k"]) fun _ _ _ _ _ _ us hl => match us, hl with | [_, _], _ => rfl
  have F_l_draw := fun_mk (st := s_l_draw) l_l_draw c_l_draw k_l_draw
  have B_l_draw := F_l_draw.binds (ps := ["_law_pot_here", "_law_many"]) fun _ _ _ _ _ _ us hl => match us, hl with | [_, _], _ => rfl
  have F_l_pick := fun_mk (st := s_l_pick) l_l_pick c_l_pick k_l_pick
  have B_l_pick := F_l_pick.binds (ps := ["_law_pot_here", "_law_some"]) fun _ _ _ _ _ _ us hl => match us, hl with | [_, _], _ => rfl
  have F_l_labels := fun_mk (st := s_l_labels) l_l_labels c_l_labels k_l_labels
  have B_l_labels := F_l_labels.binds (ps := ["_law_pot_here", "_law_many"]) fun _ _ _ _ _ _ us hl => match us, hl with | [_, _], _ => rfl
  have F_l_ahead := fun_mk (st := s_l_ahead) l_l_ahead c_l_ahead k_l_ahead
  have B_l_ahead := F_l_ahead.binds (ps := ["_law_one_word", "_law_two_word"]) fun _ _ _ _ _ _ us hl => match us, hl with | [_, _], _ => rfl
  have F_l_lesser := fun_mk (st := s_l_lesser) l_l_lesser c_l_lesser k_l_lesser
  have B_l_lesser := F_l_lesser.binds (ps := ["_law_near", "_law_far"]) fun _ _ _ _ _ _ us hl => match us, hl with | [_, _], _ => rfl
  have F_l_near_labels := fun_mk (st := s_l_near_labels) l_l_near_labels c_l_near_labels k_l_near_labels
  have B_l_near_labels := F_l_near_labels.binds (ps := ["_law_pot_here"]) fun _ _ _ _ _ _ us hl => match us, hl with | [_], _ => rfl
  have F_l_bent := fun_mk (st := s_l_bent) l_l_bent c_l_bent k_l_bent
  have B_l_bent := F_l_bent.binds (ps := ["_law_pot_here", "_law_word", "_law_labels_here"]) fun _ _ _ _ _ _ us hl => match us, hl with | [_, _, _], _ => rfl
  have F_l_right := fun_mk (st := s_l_right) l_l_right c_l_right k_l_right
  have B_l_right := F_l_right.binds (ps := ["_law_pot_here"]) fun _ _ _ _ _ _ us hl => match us, hl with | [_], _ => rfl
  have F_law := fun_mk (st := s_law) l_law c_law k_law
  have B_law := F_law.binds (ps := ["_law_script"]) fun _ _ _ _ _ _ us hl => match us, hl with | [_], _ => rfl
  have F_Row_init := funA_mk (st := s_Row_init) l_Row_init c_Row_init k_Row_init
  have B_Row_init := binds_tup (K := K) (x := "__init__") (qual := "Row.__init__") (st := s_Row_init) (ps := ["self", "names"]) (kV := kV_Row_init) (doc := dc_Row_init) (pm := pm_Row_init) (cdv := cd_Row_init) (ct := ct_Row_init) (an := an_Row_init) t_Row_init rfl fun us hl => match us, hl with | [_, _], _ => ⟨_, rfl, rfl⟩
  have F_Row_is_ahead := fun_mk (st := s_Row_is_ahead) l_Row_is_ahead c_Row_is_ahead k_Row_is_ahead
  have B_Row_is_ahead := F_Row_is_ahead.binds (ps := ["self", "other"]) fun _ _ _ _ _ _ us hl => match us, hl with | [_, _], _ => rfl
  have F_Row_eq := fun_mk (st := s_Row_eq) l_Row_eq c_Row_eq k_Row_eq
  have B_Row_eq := F_Row_eq.binds (ps := ["self", "other"]) fun _ _ _ _ _ _ us hl => match us, hl with | [_, _], _ => rfl
  have F_Row_repr := fun_mk (st := s_Row_repr) l_Row_repr c_Row_repr k_Row_repr
  have B_Row_repr := F_Row_repr.binds (ps := ["self"]) fun _ _ _ _ _ _ us hl => match us, hl with | [_], _ => rfl
  exact ⟨{
    a_is_list := _, d_is_list := _, f_is_list := F_is_list, b_is_list := B_is_list,
    m_is_list := PySem.W.mg_of X G g_is_list,
    a_is_name := _, d_is_name := _, f_is_name := F_is_name, b_is_name := B_is_name,
    m_is_name := PySem.W.mg_of X G g_is_name,
    a_want_few_runs := _, d_want_few_runs := _, f_want_few_runs := F_want_few_runs, b_want_few_runs := B_want_few_runs,
    m_want_few_runs := PySem.W.mg_of X G g_want_few_runs,
    a_l_pot := _, d_l_pot := _, f_l_pot := F_l_pot, b_l_pot := B_l_pot,
    m_l_pot := PySem.W.mg_of X G g_l_pot,
    a_l_draw := _, d_l_draw := _, f_l_draw := F_l_draw, b_l_draw := B_l_draw,
    m_l_draw := PySem.W.mg_of X G g_l_draw,
    a_l_pick := _, d_l_pick := _, f_l_pick := F_l_pick, b_l_pick := B_l_pick,
    m_l_pick := PySem.W.mg_of X G g_l_pick,
    a_l_labels := _, d_l_labels := _, f_l_labels := F_l_labels, b_l_labels := B_l_labels,
    m_l_labels := PySem.W.mg_of X G g_l_labels,
    a_l_ahead := _, d_l_ahead := _, f_l_ahead := F_l_ahead, b_l_ahead := B_l_ahead,
    m_l_ahead := PySem.W.mg_of X G g_l_ahead,
    a_l_lesser := _, d_l_lesser := _, f_l_lesser := F_l_lesser, b_l_lesser := B_l_lesser,
    m_l_lesser := PySem.W.mg_of X G g_l_lesser,
    a_l_near_labels := _, d_l_near_labels := _, f_l_near_labels := F_l_near_labels, b_l_near_labels := B_l_near_labels,
    m_l_near_labels := PySem.W.mg_of X G g_l_near_labels,
    a_l_bent := _, d_l_bent := _, f_l_bent := F_l_bent, b_l_bent := B_l_bent,
    m_l_bent := PySem.W.mg_of X G g_l_bent,
    a_l_right := _, d_l_right := _, f_l_right := F_l_right, b_l_right := B_l_right,
    m_l_right := PySem.W.mg_of X G g_l_right,
    a_law := _, d_law := _, f_law := F_law, b_law := B_law,
    m_law := PySem.W.mg_of X G g_law,
    bl_law := fun s u => .of_eq rfl,
    a_Row_init := _, d_Row_init := _, f_Row_init := F_Row_init, b_Row_init := B_Row_init,
    a_Row_is_ahead := _, d_Row_is_ahead := _, f_Row_is_ahead := F_Row_is_ahead, b_Row_is_ahead := B_Row_is_ahead,
    bk_Row_is_ahead := fun s u w _ => .of_eq rfl,
    a_Row_eq := _, d_Row_eq := _, f_Row_eq := F_Row_eq, b_Row_eq := B_Row_eq,
    a_Row_repr := _, d_Row_repr := _, f_Row_repr := F_Row_repr, b_Row_repr := B_Row_repr,
    C_Row := C_Row, m_Row := PySem.W.mg_of X G gC_Row, own_Row := ⟨⟨pg_Row, hd_Row, po_Row, sa_Row⟩, ha_Row, hn_Row, ht_Row, hm_Row⟩,
    n_Row_own_names := n_Row_own_names,
    mk_Row := ⟨mk_Row, g_Row_init, i_Row_init, kc_Row⟩,
    me_Row_is_ahead := ⟨g_Row_is_ahead, i_Row_is_ahead, k_Row_is_ahead⟩,
    sp_Row_eq := ⟨g_Row_eq, i_Row_eq⟩,
    sp_Row_repr := ⟨g_Row_repr, i_Row_repr⟩,
    z_isinstance := PySem.W.mg_none_of X G z_isinstance,
    z_list := PySem.W.mg_none_of X G z_list,
    z_tuple := PySem.W.mg_none_of X G z_tuple,
    z_str := PySem.W.mg_none_of X G z_str,
    z_len := PySem.W.mg_none_of X G z_len,
    z_all := PySem.W.mg_none_of X G z_all,
    z_enumerate := PySem.W.mg_none_of X G z_enumerate,
    z_abs := PySem.W.mg_none_of X G z_abs,
    z_max := PySem.W.mg_none_of X G z_max,
    z_int := PySem.W.mg_none_of X G z_int,
    z_divmod := PySem.W.mg_none_of X G z_divmod,
    z_range := PySem.W.mg_none_of X G z_range,
    z_zip := PySem.W.mg_none_of X G z_zip,
    z_min := PySem.W.mg_none_of X G z_min,
    z_repr := PySem.W.mg_none_of X G z_repr,
    z_any := PySem.W.mg_none_of X G z_any,
    c_LETTERS := ⟨_, PySem.W.mg_of X G v_LETTERS⟩,
    c_MOST_LETTERS := ⟨_, PySem.W.mg_of X G v_MOST_LETTERS⟩,
    c_MOST_RUNS := ⟨_, PySem.W.mg_of X G v_MOST_RUNS⟩
  }, rfl⟩
end Fk
set_option Elab.async false
set_option linter.all false
set_option maxRecDepth 100000
set_option maxHeartbeats 4000000
namespace Fk
open PySem L2 Fx
section
variable {P : Program} {w : World} {K : PySem.W.Frag} {mg : Str → Option Value} {base : Heap}
/-! ### the program's small defs -/
theorem ok_is_list (T : Tx K mg) : FnOk P w K mg base CX0 1 T.a_is_list T.d_is_list ["value"] (spD K (fun ds => ∃ xs, ds = [.lst xs]) (fun _ d => d = .bl true)) :=
  Fx.Fun.okD T.f_is_list sc_is_list (fun ds ⟨xs, q⟩ => by rw [q]; rfl) fun cdv A outer s E ds vs B H hr hx r hp => by
    obtain ⟨xs, rfl⟩ := hp
    obtain ⟨v, rfl, rv⟩ := rpl1 r
    exact rb_ret (en_isi2 T.z_isinstance (en_var (i := 0) rfl rv) (en_ty T.z_list bt_list) (en_ty T.z_tuple bt_tuple) (t := .type "list") rfl kit_any1) hx fun v d B' H' s q r => Ret.of s q.symm r
theorem ok_is_name (T : Tx K mg) : FnOk P w K mg base CX0 1 T.a_is_name T.d_is_name ["value"] (spD K (fun ds => ∃ z, Nm z ∧ ds = [.str z]) (fun _ d => d = .bl true)) :=
  Fx.Fun.okD T.f_is_name sc_is_name (fun ds ⟨z, _, q⟩ => by rw [q]; rfl) fun cdv A outer s E ds vs B H hr hx r hp => by
    obtain ⟨z, hz, rfl⟩ := hp
    obtain ⟨v, rfl, rv⟩ := rpl1 r
    obtain ⟨t2, c2⟩ := T.c_MOST_LETTERS
    obtain ⟨t1, c1⟩ := T.c_LETTERS
    obtain ⟨h1, h2, h3⟩ := hz
    have hzl : z.length ≤ sizeLine := Nat.le_trans h2 (by decide)
    refine rb_ifF (ET.eq (ed_or2 (ed_not (et_valE (en_callB T.z_isinstance bt_isinstance (ea_cons (en_var (i := 0) rfl rv) (ea_cons (en_ty T.z_str bt_str) ea_nil)) fun ds q => q ▸ cd_isiS)))
      (fun _ => ed_not (et_chainI op_le op_le en_int (en_callB T.z_len bt_len (ea_cons (en_var (i := 0) rfl rv) ea_nil) fun ds q => q ▸ cd_lenS hzl) (en_gint c2)))) ?_) hx (fun B1 H1 s1 => ?_)
    · have e1 : decide ((1 : Int) ≤ (z.length : Nat)) = true := decide_eq_true (by omega)
      have e2 : decide (((z.length : Nat) : Int) ≤ 8) = true := decide_eq_true (by omega)
      simp only [e1, e2]; rfl
    · have rv1 := rv.mono s1.b
      refine rb_ret (P := Eq (.bl true)) (en_callB (PL := Eq [.lst ((signs z).map fun _ => .bl true)]) T.z_all bt_all (ea_cons (EF.shEq ?_) ea_nil) fun ds q => ?_) s1.bh fun v d B' H' s q r => Ret.step s1 (Ret.of s q.symm r)
      · refine LC.ef (lM (f := fun _ => .bl true) (j := 1) (wi_text (en_var (i := 0) rfl rv1)) (blkOk_by (N := N_is_name) (sc := defScope s_is_name) (own := [("sign", 1)]) (by decide +kernel)) (fun _ _ _ _ _ => pg_name sc_is_name.nd rfl (Or.inl rfl)) (fun _ => rfl) ?_ ?_) sc_is_name.nd
        · unfold signs
          rw [List.length_map, Array.length_toList]
          exact hzl
        · intro d hd B2 v2 e2 r2 s0 H0 C cl fp
          unfold signs at hd
          obtain ⟨c, hc, rfl⟩ := List.mem_map.mp hd
          exact EN.eq (ed_cmp (en_var (i := 1) rfl r2) (en_gstr c1) od_inC) (by rw [decide_eq_true (abc_mem (h3 c hc).1 (h3 c hc).2)])
      · subst q
        have e : (signs z).map (fun _ => D.bl true) = D.bls ((signs z).map fun _ => true) := by
          unfold D.bls
          rw [List.map_map]; rfl
        rw [e]
        have h := cd_all (X := (cxOf CX0 P w K mg base N_is_name "is_name" (defScope s_is_name) T.a_is_name cdv A outer s H E).nox) rfl (bs := (signs z).map fun _ => true)
        rwa [show ((signs z).map fun _ => true).all id = true from by simp] at h
theorem ok_few (T : Tx K mg) : FnOk P w K mg base CX0 1 T.a_want_few_runs T.d_want_few_runs ["many"] (spD K (fun ds => ∃ n : Int, n ≤ 400 ∧ ds = [.int n]) (fun _ d => d = .non)) :=
  Fx.Fun.okD T.f_want_few_runs sc_want_few_runs (fun ds ⟨z, _, q⟩ => by rw [q]; rfl) fun cdv A outer s E ds vs B H hr hx r hp => by
    obtain ⟨n, hn, rfl⟩ := hp
    obtain ⟨v, rfl, rv⟩ := rpl1 r
    obtain ⟨t1, c1⟩ := T.c_MOST_RUNS
    exact rb_ifF ((ed_tcmp (en_var (i := 0) rfl rv) (en_gint c1) od_gt).eq (decide_eq_false (by omega))) hx fun B1 H1 s1 => rb_nil (Ret.of s1 rfl (Rp.non.mpr rfl))
end
end Fk
set_option Elab.async false
set_option linter.all false
set_option maxRecDepth 100000
set_option maxHeartbeats 4000000
namespace Fk
open PySem L2 Fx
section
variable {P : Program} {w : World} {K : PySem.W.Frag} {mg : Str → Option Value} {base : Heap}
/-! ### draws -/
def preD (ds : List D) : Prop := ∃ m : Int, ds = [.pot, .int m] ∧ 0 < m ∧ m < 2 ^ 20
def postD (ds : List D) (d : D) : Prop := ∃ m r : Int, ds = [.pot, .int m] ∧ d = .int r ∧ 0 ≤ r ∧ r < m
theorem ok_draw (T : Tx K mg) : FnOk P w K mg base CX0 1 T.a_l_draw T.d_l_draw ["_law_pot_here", "_law_many"] (spD K preD postD) :=
  Fx.Fun.okD T.f_l_draw sc_l_draw (fun ds ⟨z, q, _⟩ => by rw [q]; rfl) fun cdv A outer s E ds vs B H hr hx r hp => by
    obtain ⟨m, rfl, hm0, hm1⟩ := hp
    obtain ⟨v, u, rfl, rv, ru⟩ := rpl2 r
    simp only [Rp] at rv
    obtain ⟨q, rfl, hq⟩ := rv
    cases Rp.int.mp ru
    have hH : H q = some (potO q) := hx _ _ hq
    refine rb_open hH fun i j hi hj hj2 => rb_close ?_
    -- what is known while the pot stands open
    have fin : ∀ (r : Int) (H' : Hp), 0 ≤ r → r < m → PotAt q H' → (∀ a o, a ≠ q → H a = some o → H' a = some o) → ∃ q', PotAt q' H' ∧ Ret K B H (postD [.pot, .int m]) (.int r) (upd H' q' (potO q')) := fun r H' h0 h1 hp hk => by
      have ex : Ex H (upd H' q (potO q)) := fun a o ha => by
        by_cases z : a = q
        · subst z; rw [upd_same, ← hH]; exact ha
        · rw [upd_ne z]; exact hk a o z ha
      exact ⟨q, hp, Ret.of ⟨Ex.refl B, hx.trans ex, ex, fun _ h _ => h⟩ ⟨m, r, rfl, rfl, h0, h1⟩ (Rp.int.mpr rfl)⟩
    have bs : ∀ (i j : Int) (H' : Hp), H' q = some (.lst [.int i, .int j]) → Ex (upd (fun _ => none) q (.lst [.int i, .int j])) H' ∧ Rp K (upd (fun _ => none) q (.lst [.int i, .int j])) (.lst [.int i, .int j]) (.ref q) := fun i j H' h => by
      refine ⟨fun a o ha => ?_, Rp.lst.mpr ⟨q, _, rfl, upd_same, RpL.cons (Rp.int.mpr rfl) (RpL.cons (Rp.int.mpr rfl) RpL.nil)⟩⟩
      by_cases z : a = q
      · subst z; rw [upd_same] at ha; rw [h]; exact ha
      · rw [upd_ne z] at ha; cases ha
    obtain ⟨x0, r0⟩ := bs i j _ (upd_same (H := H))
    have hm : CDiv i m := ⟨hm0, by omega⟩
    refine rb_if0 (t := decide (0 < i)) (ed_tcmp (ed_ix (en_var (i := 0) rfl r0) en_int (ix_lst (d := .int i) rfl)) en_int od_gt) x0 (fun ht B1 H1 s1 => ?_) (fun hf B1 H1 s1 => ?_)
    · refine rb_storeP (i := 0) (l := 2) rfl sc_l_draw.nd rfl (s1.h _ _ upd_same) (en_callB T.z_divmod bt_divmod (ea_cons (ed_ix (en_var (i := 0) rfl (r0.mono s1.b)) en_int (ix_lst (d := .int i) rfl)) (ea_cons (en_var (i := 1) rfl (Rp.int.mpr rfl)) ea_nil)) fun ds q => q ▸ cd_divmod hm) rfl s1.bh fun v u B2 H2 s2 r1 r2 => ?_
      cases Rp.int.mp r1
      cases Rp.int.mp r2
      refine rb_ret (en_var (i := 2) rfl (Rp.int.mpr rfl)) (Ex.refl _) fun v d B3 H3 s3 q3 r3 => ?_
      subst q3
      cases Rp.int.mp r3
      refine fin _ _ (Int.emod_nonneg _ (by omega)) (Int.emod_lt_of_pos _ hm0) ⟨i / m, j, s3.h _ _ upd_same, Int.ediv_nonneg hi (by omega), hj, hj2⟩ fun a o na ha => ?_
      exact s3.h _ _ (by rw [upd_ne na]; exact s2.h _ _ (s1.h _ _ (by rw [upd_ne na]; exact ha)))
    · have c1 : CMul j 44203 := .inr ⟨by decide, by decide⟩
      refine rb_storeI (i := 0) rfl (s1.h _ _ upd_same) (ed_op (en_callTy T.z_int bt_int (ea_cons (ed_op (ed_op (ed_ix (en_var (i := 0) rfl (r0.mono s1.b)) en_int (ix_lst (d := .int j) rfl)) en_int (od_mul c1)) en_int od_add) ea_nil) fun ds q => q ▸ cd_int) en_int (od_mod (by decide))) rfl s1.bh fun v d B2 H2 s2 q2 r2 => ?_
      subst q2
      cases Rp.int.mp r2
      generalize hj3 : (j * 44203 + 12227) % 2147483587 = j3
      have b0 : 0 ≤ j3 := by rw [← hj3]; exact Int.emod_nonneg _ (by decide)
      have b1 : j3 < 2147483587 := by rw [← hj3]; exact Int.emod_lt_of_pos _ (by decide)
      obtain ⟨x3, r3⟩ := bs i j3 (upd H2 q (.lst [.int i, .int j3])) upd_same
      have c2 : CMul j3 j3 := .inl ⟨by omega, by omega⟩
      have hx3 : Ex (upd (fun _ => none) q (.lst [.int i, .int j3])) (upd H2 q (.lst ([V.int i, V.int j].set 1 (V.int j3)))) := x3
      refine rb_ret (ed_op (en_callTy T.z_int bt_int (ea_cons (ed_op (ed_op (en_callTy T.z_int bt_int (ea_cons (ed_op (ed_ix (en_var (i := 0) rfl r3) en_int (ix_lst (d := .int j3) rfl)) (ed_ix (en_var (i := 0) rfl r3) en_int (ix_lst (d := .int j3) rfl)) (od_mul c2)) ea_nil) fun ds q => q ▸ cd_int) en_int (od_mod (by decide))) en_int (od_fdiv ⟨by decide, by decide⟩)) ea_nil) fun ds q => q ▸ cd_int) (en_var (i := 1) rfl (Rp.int.mpr rfl)) (od_mod hm0)) hx3 fun v d B4 H4 s4 q4 r4 => ?_
      subst q4
      cases Rp.int.mp r4
      refine fin _ _ (Int.emod_nonneg _ (by omega)) (Int.emod_lt_of_pos _ hm0) ⟨i, j3, s4.h _ _ upd_same, hi, b0, by omega⟩ fun a o na ha => ?_
      exact s4.h _ _ (by rw [upd_ne na]; exact s2.h _ _ (s1.h _ _ (by rw [upd_ne na]; exact ha)))
end
end Fk
set_option Elab.async false
set_option linter.all false
set_option maxRecDepth 100000
set_option maxHeartbeats 4000000
namespace Fk
open PySem L2 Fx
section
variable {P : Program} {w : World} {K : PySem.W.Frag} {mg : Str → Option Value} {base : Heap}
theorem ok_pot (T : Tx K mg) : FnOk P w K mg base CX0 1 T.a_l_pot T.d_l_pot ["_law_script", "_law_k"] (spD K (fun ds => ∃ (ns : List Int) (k : Int), ds = [.scr ns, .int k] ∧ 0 ≤ k ∧ k < 64) (fun _ d => d = .pot)) :=
  Fx.Fun.okD T.f_l_pot sc_l_pot (fun ds ⟨z, k, q, _⟩ => by rw [q]; rfl) fun cdv A outer s E ds vs B H hr hx r hp => by
    obtain ⟨ns, k, rfl, hk0, hk1⟩ := hp
    obtain ⟨v, u, rfl, rv, ru⟩ := rpl2 r
    cases Rp.int.mp ru
    have ck : CMul 29 k := .inl ⟨by decide, by decide⟩
    have fin : ∀ (c : Int) (B1 H1 : Hp), 0 ≤ c → Fx.Step B H B1 H1 → RB (cxOf CX0 P w K mg base N_l_pot "_law_pot" (defScope s_l_pot) T.a_l_pot cdv A outer s H E).nox ((defBody s_l_pot).drop 2) [some v, some (.int k), some (.int c)] H1
        { nx := fun _ H' => Ret K B H (fun d => d = .pot) .non H', rt := Ret K B H (fun d => d = .pot) } := fun c B1 H1 hc s1 => by
      refine rb_close ?_
      have cp : CPow (2 * k + 3) 3 := ⟨by decide, by decide, by omega⟩
      have cp2 : CPow 10 18 := ⟨by decide, by decide, by decide⟩
      have hm : 0 ≤ c % 2147483543 ∧ c % 2147483543 < 2147483543 := ⟨Int.emod_nonneg _ (by decide), Int.emod_lt_of_pos _ (by decide)⟩
      have cm : CMul (c % 2147483543 + 7) ((2 * k + 3) ^ 3) := .inl ⟨by omega, by omega⟩
      have c2k : CMul 2 k := .inl ⟨by decide, by decide⟩
      refine rb_retF (ef_lst (PL := Eq [.int (if c - 10 ^ 18 > 0 then c - 10 ^ 18 else 0), .int ((c % 2147483543 + 7) * (2 * k + 3) ^ 3 % 2147483477 + 1)]) (ea_cons (en_callB T.z_max bt_max (ea_cons en_int (ea_cons (ed_op (en_var (i := 2) rfl (Rp.int.mpr rfl)) (ed_op en_int en_int (od_pow cp2)) od_sub) ea_nil)) fun ds q => q ▸ cd_max rfl)
        (ea_cons (ed_op (ed_op (ed_op (en_callTy T.z_int bt_int (ea_cons (ed_op (ed_op (en_callTy T.z_int bt_int (ea_cons (en_var (i := 2) rfl (Rp.int.mpr rfl)) ea_nil) fun ds q => q ▸ cd_int) en_int (od_mod (by decide))) en_int od_add) ea_nil) fun ds q => q ▸ cd_int)
          (ed_op (ed_op (ed_op en_int (en_var (i := 1) rfl (Rp.int.mpr rfl)) (od_mul c2k)) en_int od_add) en_int (od_pow cp)) (od_mul cm)) en_int (od_mod (by decide))) en_int od_add) ea_nil)) (fun ds q => by subst q; exact (by decide : 2 ≤ sizeLine))) s1.bh fun p ds vs B2 H2 s2 n1 n2 h2 q r2 => ?_
      subst q
      obtain ⟨v1, v2, rfl, q1, q2⟩ := rpl2 r2
      cases Rp.int.mp q1
      cases Rp.int.mp q2
      have hb : 0 ≤ (c % 2147483543 + 7) * (2 * k + 3) ^ 3 % 2147483477 ∧ (c % 2147483543 + 7) * (2 * k + 3) ^ 3 % 2147483477 < 2147483477 := ⟨Int.emod_nonneg _ (by decide), Int.emod_lt_of_pos _ (by decide)⟩
      refine ⟨p, ⟨_, _, h2, by split <;> omega, by omega, by omega⟩, ?_⟩
      exact Ret.step s1 (Ret.of (s2.recast n1 n2) rfl (by simp only [Rp]; exact ⟨p, rfl, upd_same⟩))
    refine rb_set (i := 2) sc_l_pot.nd (ed_op (ed_op en_int (en_var (i := 1) rfl (Rp.int.mpr rfl)) (od_mul ck)) en_int od_add) hx fun v1 d1 B1 H1 s1 q1 r1 => ?_
    subst q1
    cases Rp.int.mp r1
    have rv1 := rv.mono s1.b
    refine rb_if0 (t := decide (k < ns.length)) (ed_tcmp (en_var (i := 1) rfl (Rp.int.mpr rfl)) (en_callB T.z_len bt_len (ea_cons (en_var (i := 0) rfl rv1) ea_nil) fun ds q => q ▸ cd_lenSc) od_lt) s1.bh (fun ht B2 H2 s2 => ?_) (fun _ B2 H2 s2 => ?_)
    · have hk : k.toNat < ns.length := by have := of_decide_eq_true ht; omega
      have ei : L2.atI ns k = some ns[k.toNat] := by
        have := Fx.atI_nat (List.getElem?_eq_getElem hk)
        rwa [show ((k.toNat : Nat) : Int) = k from by omega] at this
      refine rb_set (i := 2) sc_l_pot.nd (en_callB T.z_abs bt_abs (ea_cons (ed_ix (en_var (i := 0) rfl (rv1.mono s2.b)) (en_var (i := 1) rfl (Rp.int.mpr rfl)) (ix_scr ei)) ea_nil) fun ds q => q ▸ cd_abs) s2.bh fun v3 d3 B3 H3 s3 q3 r3 => rb_nil ?_
      subst q3
      cases Rp.int.mp r3
      exact fin _ B3 H3 (by split <;> omega) ((s1.trans s2).trans s3)
    · exact fin _ B2 H2 (by omega) (s1.trans s2)
/-- some item -/
theorem ok_pick (T : Tx K mg) : FnOk P w K mg base CX0 2 T.a_l_pick T.d_l_pick ["_law_pot_here", "_law_some"] (spD K (fun ds => ∃ xs : List D, ds = [.pot, .lst xs] ∧ xs ≠ [] ∧ xs.length < 2 ^ 20) (fun ds d => ∃ xs : List D, ds = [.pot, .lst xs] ∧ d ∈ xs)) :=
  Fx.Fun.okD T.f_l_pick sc_l_pick (fun ds ⟨z, q, _⟩ => by rw [q]; rfl) fun cdv A outer s E ds vs B H hr hx r hp => by
    obtain ⟨xs, rfl, hne, hlen⟩ := hp
    obtain ⟨v, u, rfl, rv, ru⟩ := rpl2 r
    have hpos : 0 < xs.length := List.length_pos_iff.mpr hne
    refine rb_ret (P := fun d => d ∈ xs) (en_ix (Pa := Eq (.lst xs)) (Pb := fun d => ∃ ds, Eq [.pot, .int (xs.length : Nat)] ds ∧ postD ds d) (en_var (i := 1) rfl ru) (en_callO (ok_draw T) hr T.m_l_draw T.f_l_draw.kp T.b_l_draw (ea_cons (en_var (i := 0) rfl rv) (ea_cons (en_callB T.z_len bt_len (ea_cons (en_var (i := 1) rfl ru) ea_nil) fun ds q => q ▸ cd_lenL) ea_nil)) fun ds q => q ▸ ⟨_, rfl, by omega, by omega⟩)
      fun x y px py => ?_) hx fun v d B' H' s q r => Ret.of s ⟨xs, rfl, q⟩ r
    subst px
    obtain ⟨ds, rfl, m, i, q, rfl, h0, h1⟩ := py
    injection q with _ q
    injection q with q _
    injection q with q
    subst q
    exact ix_lstM h0 h1
end
end Fk
set_option Elab.async false
set_option linter.all false
set_option maxRecDepth 100000
set_option maxHeartbeats 4000000
namespace Fk
open PySem L2 Fx
/-- a drawn number below m -/
def Dr (m : Int) (d : D) : Prop := ∃ r : Int, d = .int r ∧ 0 ≤ r ∧ r < m
theorem en_draw {X : Cx} {f : Addr} {fd : FuncData} {a b : Expr} {p pos : Pos} {σ : L2.St} {B : Hp} {m : Int} (F : FnOk X.prog X.w X.K X.mg X.base CX0 1 f fd ["_law_pot_here", "_law_many"] (spD X.K preD postD)) (hr : Room 1 X.A) (hm : X.mg "_law_draw" = some (.ref f)) (hk : PySem.W.keepIn X.K (.ref f) = true) (hb : Binds X.K fd ["_law_pot_here", "_law_many"] [])
    (ha : EN X a σ B (Eq .pot)) (hb2 : EN X b σ B (Eq (.int m))) (h0 : 0 < m) (h1 : m < 2 ^ 20) (hg : Gl X "_law_draw" := by rfl) (he : starEach [a, b] X.env = (false, eval a X.env) :: starEach [b] X.env := by rfl) (he2 : starEach [b] X.env = (false, eval b X.env) :: starEach [] X.env := by rfl) (hpl : (backTo pos (starEach [b] X.env)).any (·.1) = false := by rfl) :
    EN X (.Call (.Name "_law_draw" p) [a, b] [] pos) σ B (Dr m) :=
  EN.imp (ed_callO (pos := pos) F hr hm hk hb (ea_cons ha (ea_cons hb2 ea_nil he2) he) ⟨m, rfl, h0, h1⟩ hg (by decide) he hpl) fun d ⟨m', r, q, e, h2, h3⟩ => by
    injection q with _ q
    injection q with q _
    injection q with q
    subst q
    exact ⟨r, e, h2, h3⟩
section
variable {P : Program} {w : World} {K : PySem.W.Frag} {mg : Str → Option Value} {base : Heap}
abbrev near (z : Str) (d : D) : Str := match d with | .str s => cutS z none (some 7) ++ s | _ => z
theorem ok_labels (T : Tx K mg) : FnOk P w K mg base CX0 2 T.a_l_labels T.d_l_labels ["_law_pot_here", "_law_many"] (spD K (fun ds => ∃ n : Nat, ds = [.pot, .int n] ∧ n ≤ 9) (fun ds d => ∃ ws : List Str, d = .lst (D.strs ws) ∧ ds = [.pot, .int ws.length] ∧ (∀ z ∈ ws, Nm z) ∧ ws.Nodup)) :=
  Fx.Fun.okD T.f_l_labels sc_l_labels (fun ds ⟨z, q, _⟩ => by rw [q]; rfl) fun cdv A outer s E ds vs B H hr hx r hp => by
    obtain ⟨n, rfl, hn⟩ := hp
    obtain ⟨v, u, rfl, rv, ru⟩ := rpl2 r
    cases Rp.int.mp ru
    have hr1 : Room 1 _ := hr
    refine rb_asg2F (PL := Eq []) (i := 2) (j := 3) rfl sc_l_labels.nd (ef_lst ea_nil (fun ds q => by subst q; exact Nat.zero_le _)) en_str hx fun p ds vs w0 d B1 H1 s1 n0 n1 h1 pl r1 pd rd => ?_
    subst pl; subst pd
    cases Rp.str.mp rd
    simp only [RpL] at r1
    subst r1
    have rp1 := rv.mono s1.b
    refine rb_for (g := gName 4) (set := set1 4) (parts := fun d => some [d]) PassesOwn.never rfl (wi_rangeE (en_var (i := 1) rfl (Rp.int.mpr rfl)) ⟨by omega, by omega⟩ T.z_range) (pg_name sc_l_labels.nd rfl (Or.inl rfl)) (gt_name 4) s1.bh fun ds B2 H2 s2 hds => ?_
    subst hds
    have st2 := s1.trans s2
    have kp := s2.keep n1 h1
    have rp := rv.mono st2.b
    refine ⟨fun i σ1 B3 H3 => ∃ (ws : List Str) (a4 a5 a6 : Option V), B3 = B2 ∧ Ex B2 H3 ∧ Ex H H3 ∧ H3 p = some (.lst (ws.map V.str)) ∧ ws.length = i ∧ (∀ z ∈ ws, Nm z) ∧ ws.Nodup ∧
      σ1 = [some v, some (.int (n : Int)), some (.ref p), some (.str abc), a4, a5, a6, none, none, none], ⟨[], none, none, none, rfl, s2.bh, st2.h, kp.2, rfl, (fun _ h => nomatch h), List.nodup_nil, rfl⟩,
      (fun i σ1 B3 H3 ⟨ws, a4, a5, a6, e, x, _⟩ => by subst e; exact ⟨Ex.refl _, x⟩), ?_, ?_⟩
    · rintro i d σ1 B3 H3 hd ⟨ws, a4, a5, a6, rfl, x1, x2, hp3, hl, hnm, hnd, rfl⟩
      have hi : i < n := by
        have := (List.getElem?_eq_some_iff.mp hd).1
        rw [upTo_length] at this
        omega
      refine ⟨[d], rfl, fun B4 H4 us s4 rus => ?_⟩
      obtain ⟨kv, rfl, rk⟩ := rpl1 rus
      have y1 : Ex B3 H4 := s4.b.trans s4.bh
      have y2 : Ex H H4 := x2.trans s4.h
      have hp4 := s4.h _ _ hp3
      -- label = ''.join([...])
      refine rb_set (i := 5) (P := fun d => ∃ z, d = .str z ∧ Nm z) sc_l_labels.nd (en_bm (dx := .str "") (PL := fun l => ∃ cs : List Nat, l = [.lst (D.strs (cs.map fun c => (⟨#[c]⟩ : Str)))] ∧ 1 ≤ cs.length ∧ cs.length ≤ 8 ∧ ∀ c ∈ cs, 97 ≤ c ∧ c ≤ 122) rfl PySem.F.plainAttrs_str PySem.F.slot_str_join PySem.F.type_str_join en_str
        (EA.imp (ea_consN (P := fun d => ∃ cs : List Nat, d = .lst (D.strs (cs.map fun c => (⟨#[c]⟩ : Str))) ∧ 1 ≤ cs.length ∧ cs.length ≤ 8 ∧ ∀ c ∈ cs, 97 ≤ c ∧ c ≤ 122) (EN.imp (EF.sh (PL := fun es => ∃ cs : List Nat, es = D.strs (cs.map fun c => (⟨#[c]⟩ : Str)) ∧ 1 ≤ cs.length ∧ cs.length ≤ 8 ∧ ∀ c ∈ cs, 97 ≤ c ∧ c ≤ 122) ?_) ?_) ea_nil) ?_) ?_) y1 fun v5 d5 B5 H5 s5 q5 r5 => ?_
      · refine LC.ef (LC.imp (lN (Pds := fun ds => ∃ k : Int, (1 ≤ k ∧ k ≤ 8) ∧ ds = Fx.upTo k.toNat) (Pe := fun _ _ e => ∃ c, e = .str ⟨#[c]⟩ ∧ 97 ≤ c ∧ c ≤ 122) (j := 7) (wi_range (Pn := fun k => 1 ≤ k ∧ k ≤ 8)
          (en_op (Pa := Eq (.int 1)) (Pb := Dr 8) en_int (en_draw (ok_draw T) hr1 T.m_l_draw T.f_l_draw.kp T.b_l_draw (en_var (i := 0) rfl rp) en_int (by decide) (by decide)) ?_) (fun k hk => ⟨by omega, by omega⟩) T.z_range)
          (blkOk_by (N := N_l_labels) (sc := defScope s_l_labels) (own := [("_law_turn", 7)]) (by decide +kernel)) (fun _ _ _ _ _ => pg_name sc_l_labels.nd rfl (Or.inl rfl)) (fun _ => rfl) ?_ ?_) ?_) sc_l_labels.nd
        · rintro x y rfl ⟨k, rfl, h0, h8⟩
          exact OD.imp od_add fun d q => ⟨_, q.symm, by omega, by omega⟩
        · rintro ds ⟨k, ⟨h0, h8⟩, rfl⟩
          rw [upTo_length]
          exact Nat.le_trans (by omega : k.toNat ≤ 8) (by decide)
        · intro ds _ i d _ B6 v6 x6 r6 s0 H0 C cl fp
          refine en_ix (Pa := Eq (.str abc)) (Pb := Dr 26) (en_var (i := 3) rfl (Rp.str.mpr rfl)) (en_draw (ok_draw T) hr1 T.m_l_draw T.f_l_draw.kp T.b_l_draw (en_var (i := 0) rfl (rp.mono x6)) en_int (by decide) (by decide)) ?_
          rintro x y rfl ⟨k, rfl, h0, h26⟩
          refine ix_textM (by decide) h0 (by rw [show (abc.length : Int) = 26 from by decide +kernel]; exact h26) fun c hc => ?_
          rw [abc_list] at hc
          obtain ⟨j, hj, rfl⟩ := List.mem_map.mp hc
          have := List.mem_range.mp hj
          omega
        · rintro es ⟨ds, ⟨k, ⟨h0, h8⟩, rfl⟩, hlen, hall⟩
          rw [upTo_length] at hlen
          obtain ⟨cs, rfl, hcs⟩ := choose_map (g := fun c => D.str ⟨#[c]⟩) (Q := fun c => 97 ≤ c ∧ c ≤ 122) (es := es) (all_of (by rw [upTo_length]; exact hlen) hall)
          rw [List.length_map] at hlen
          exact ⟨cs, by unfold D.strs; rw [List.map_map]; rfl, by omega, by omega, hcs⟩
      · rintro d ⟨es, rfl, cs, rfl, h⟩
        exact ⟨cs, rfl, h⟩
      · rintro l ⟨d, t, rfl, ⟨cs, rfl, h⟩, rfl⟩
        exact ⟨cs, rfl, h⟩
      · rintro l ⟨cs, rfl, h1, h8, hcs⟩
        obtain ⟨r0, hr0, k0⟩ := md_join (X := (cxOf CX0 P w K mg base N_l_labels "_law_labels" (defScope s_l_labels) T.a_l_labels cdv A outer s H E).nox) (z := "") (ws := cs.map fun c => (⟨#[c]⟩ : Str)) (by rw [sum_ones, List.length_map]; show cs.length + cs.length * 0 ≤ _; omega)
        exact ⟨r0, hr0, fun v vs B H Q x rx ry kk => k0 v vs B H Q x rx ry fun z d B' H' s q rz => kk z d B' H' s ⟨_, q.symm, nm_of (join_ones cs) h1 h8 hcs⟩ rz⟩
      -- spare
      obtain ⟨z, rfl, hz⟩ := q5
      cases Rp.str.mp r5
      have hzl : z.length ≤ sizeLine := Nat.le_trans hz.2.1 (by decide)
      have w1 : Ex B3 H5 := s5.b.trans s5.bh
      have e26 : (signs abc).length = 26 := by decide +kernel
      refine rb_set (i := 6) (P := Eq (.lst (D.strs (z :: (signs abc).map (near z))))) sc_l_labels.nd (EF.shEq (EF.imp (PL := Eq ([D.str z] ++ D.strs ((signs abc).map (near z)))) (ef_op (Pa := Eq (.lst [.str z])) (Pb := Eq (.lst (D.strs ((signs abc).map (near z))))) (en_lst (ea_cons (en_var (i := 5) rfl (Rp.str.mpr rfl)) ea_nil) (by exact (by decide : 1 ≤ sizeLine))) (EF.shEq (EF.imp (LC.ef (lM (j := 8) (f := fun d => .str (near z d)) (wi_text (z := abc) (en_var (i := 3) rfl (Rp.str.mpr rfl)))
          (blkOk_by (N := N_l_labels) (sc := defScope s_l_labels) (own := [("_law_sign", 8)]) (by decide +kernel)) (fun _ _ _ _ _ => pg_name sc_l_labels.nd rfl (Or.inl rfl)) (fun _ => rfl) ?_ ?_) sc_l_labels.nd) ?_)) ?_) ?_)) w1 fun v6 d6 B6 H6 s6 q6 r6 => ?_
      · rw [e26]; decide
      · intro d hd B6 v6 x6 r6 s0 H0 C cl fp
        unfold signs at hd
        obtain ⟨c, hc, rfl⟩ := List.mem_map.mp hd
        refine ed_op (en_slS (en_var (i := 5) rfl (Rp.str.mpr rfl)) eo_none (eo_some en_int) hzl) (en_var (i := 8) rfl r6) (od_addS ?_)
        have : (cutS z none (some 7)).length ≤ z.length := cutS_length z none (some 7)
        have h1 : (⟨#[c]⟩ : Str).length = 1 := rfl
        have h2 := hz.2.1
        exact Nat.le_trans (by omega : _ ≤ 9) (by decide)
      · intro es q
        rw [← q]
        unfold D.strs
        rw [List.map_map]; rfl
      · rintro x y rfl rfl
        exact odf_cat (by simp only [D.strs, List.length_map, e26]; exact (by decide : 1 + 26 ≤ sizeLine))
      · intro es q
        rw [← q]; rfl
      -- found.append([..][0])
      have spd : Rp K B6 (.lst (D.strs (z :: (signs abc).map (near z)))) v6 := q6 ▸ r6
      have hp6 := s6.h _ _ (s5.h _ _ hp4)
      have bp : B6 p = none := s6.nw p kp.1 (by rw [s5.h _ _ hp4]; exact fun z => nomatch z)
      have spd2 := spd.mono (Ex.new (o := .lst (ws.map V.str)) bp)
      have xc : Ex (upd B6 p (.lst (ws.map V.str))) H6 := s6.bh.upd_left hp6
      have fd2 : Rp K (upd B6 p (.lst (ws.map V.str))) (.lst (D.strs ws)) (.ref p) := Rp.lst.mpr ⟨p, _, rfl, upd_same, RpL.strs.mpr rfl⟩
      have hex : ∃ z' ∈ z :: (signs abc).map (near z), z' ∉ ws := by
        obtain ⟨z', h1, h2⟩ := fresh (nears_nodup z) (m := ws) (by rw [List.length_map, e26]; omega)
        exact ⟨z', List.mem_cons_of_mem _ h1, h2⟩
      have hnear : ∀ z' ∈ z :: (signs abc).map (near z), Nm z' := fun z' hz' => by
        rcases List.mem_cons.mp hz' with h | h
        · rw [h]; exact hz
        · obtain ⟨d, hd, rfl⟩ := List.mem_map.mp h
          unfold signs at hd
          obtain ⟨c, hc, rfl⟩ := List.mem_map.mp hd
          rw [abc_list] at hc
          obtain ⟨j, hj, rfl⟩ := List.mem_map.mp hc
          have := List.mem_range.mp hj
          exact nm_near hz (c := 97 + j) rfl (by omega)
      refine rb_appendX (i := 2) (q := p) (vs := ws.map V.str) (P := fun d => ∃ z', d = .str z' ∧ Nm z' ∧ z' ∉ ws) rfl hp6 (by rw [List.length_map]; exact Nat.lt_of_lt_of_le (by omega : ws.length < 9) (by decide)) (EN.imp (ed_ix (EF.shEq (LC.ef (lT (j := 9) (f := fun d => d) (t := fun d => match d with | .str s => !decide (s ∈ ws) | _ => false) (wi_lstE (en_var (i := 6) rfl spd2))
          (blkOk_by (N := N_l_labels) (sc := defScope s_l_labels) (own := [("_law_near", 9)]) (by decide +kernel)) (fun _ _ _ _ _ => pg_name sc_l_labels.nd rfl (Or.inl rfl)) (fun _ => rfl) ?_ ?_ ?_) sc_l_labels.nd)) en_int (ix_lstM (Int.le_refl 0) ?_)) ?_) xc fun v7 d7 B7 H7 s7 q7 r7 => rb_nil ?_
      · simp only [D.strs, List.map_cons, List.length_cons, List.length_map, e26]; decide
      · intro d hd B8 v8 x8 r8 s0 H0 C cl fp
        obtain ⟨z', hz', rfl⟩ := List.mem_map.mp hd
        exact ed_tcmp (en_var (i := 9) rfl r8) (en_var (i := 2) rfl (fd2.mono x8)) od_niLs
      · intro d hd ht B8 v8 x8 r8 s0 H0 C cl fp
        exact en_var (i := 9) rfl r8
      · obtain ⟨z', h1, h2⟩ := hex
        have : D.str z' ∈ ((D.strs (z :: (signs abc).map (near z))).filter (fun d => match d with | .str s => !decide (s ∈ ws) | _ => false)).map fun d => d := by
          rw [List.map_id']
          exact List.mem_filter.mpr ⟨List.mem_map.mpr ⟨z', h1, rfl⟩, by simp [h2]⟩
        have := List.length_pos_of_mem this
        omega
      · intro d hd
        rw [List.map_id'] at hd
        obtain ⟨h1, h2⟩ := List.mem_filter.mp hd
        obtain ⟨z', h3, rfl⟩ := List.mem_map.mp h1
        exact ⟨z', rfl, hnear z' h3, by simpa using h2⟩
      · obtain ⟨z', rfl, h1, h2⟩ := q7
        cases Rp.str.mp r7
        refine ⟨B3, ws ++ [z'], _, _, _, rfl, ((w1.trans s6.h).trans s7.h).wr kp.1, ((((y2.trans s5.h).trans s6.h).trans s7.h)).wr n0, by rw [upd_same, List.map_append]; rfl, by rw [List.length_append, hl]; rfl, fun y hy => ?_, ?_, rfl⟩
        · rcases List.mem_append.mp hy with h | h
          · exact hnm y h
          · cases List.mem_singleton.mp h; exact h1
        · exact List.nodup_append.mpr ⟨hnd, List.pairwise_singleton _ z', fun a ha b hb e => h2 (by cases List.mem_singleton.mp hb; exact e ▸ ha)⟩
    · rintro σ1 B3 H3 ⟨ws, a4, a5, a6, rfl, x1, x2, hp3, hl, hnm, hnd, rfl⟩
      rw [upTo_length] at hl
      refine rb_ret (P := Eq (.lst (D.strs ws))) (en_var (i := 2) (B := upd B3 p (.lst (ws.map V.str))) rfl (Rp.lst.mpr ⟨p, _, rfl, upd_same, RpL.strs.mpr rfl⟩)) (x1.upd_left hp3) fun v4 d4 B4 H4 s4 q4 r4 => ?_
      exact Ret.of ((Fx.Step.share (Fx.Step.grow st2 x1 x2) n0 kp.1 hp3).trans s4) ⟨ws, q4.symm, by rw [hl]; rfl, hnm, hnd⟩ r4
end
end Fk
set_option Elab.async false
set_option linter.all false
set_option maxRecDepth 100000
set_option maxHeartbeats 4000000
namespace Fk
open PySem L2 Fx
/-! the order of names, of lists of names -/
def ltS (a b : Str) : Bool := decide (a.cps.toList < b.cps.toList)
def aheadB (xs ys : List Str) : Bool := if xs.length = ys.length then PySem.W.listLt xs ys else decide (xs.length < ys.length)
theorem listLt_cons (x y : Str) (xs ys : List Str) : PySem.W.listLt (x :: xs) (y :: ys) = if x = y then PySem.W.listLt xs ys else ltS x y := rfl
theorem lt_at : ∀ {l m : List Nat} {i x y : Nat}, l.take i = m.take i → l[i]? = some x → m[i]? = some y → x ≠ y → decide (l < m) = decide (x < y)
  | [], _, i, x, y, _, h, _, _ => by simp at h
  | _ :: _, [], i, x, y, _, _, h, _ => by simp at h
  | a :: l, b :: m, 0, x, y, _, h1, h2, h => by
    simp at h1 h2
    subst h1; subst h2
    refine decide_eq_decide.mpr ⟨fun q => ?_, fun q => ?_⟩
    · rcases List.cons_lt_cons_iff.mp q with q | ⟨q, _⟩
      · exact q
      · exact absurd q h
    · exact List.cons_lt_cons_iff.mpr (.inl q)
  | a :: l, b :: m, i + 1, x, y, e, h1, h2, h => by
    simp only [List.take_succ_cons, List.cons.injEq] at e
    obtain ⟨e1, e2⟩ := e
    subst e1
    have ih := lt_at (l := l) (m := m) (i := i) e2 (by simpa using h1) (by simpa using h2) h
    rw [← ih]
    refine decide_eq_decide.mpr ⟨fun q => ?_, fun q => List.cons_lt_cons_iff.mpr (.inr ⟨rfl, q⟩)⟩
    rcases List.cons_lt_cons_iff.mp q with q | ⟨_, q⟩
    · exact absurd q (Nat.lt_irrefl _)
    · exact q
theorem lt_end : ∀ {l m : List Nat}, l.take (min l.length m.length) = m.take (min l.length m.length) → decide (l < m) = decide (l.length < m.length)
  | [], [], _ => by simp
  | [], _ :: _, _ => by simp
  | _ :: _, [], _ => by simp
  | a :: l, b :: m, e => by
    simp only [List.length_cons, Nat.succ_min_succ, List.take_succ_cons, List.cons.injEq] at e
    obtain ⟨e1, e2⟩ := e
    subst e1
    have ih := lt_end (l := l) (m := m) e2
    have e3 : decide (a :: l < a :: m) = decide (l < m) := decide_eq_decide.mpr ⟨fun q => by
      rcases List.cons_lt_cons_iff.mp q with q | ⟨_, q⟩
      · exact absurd q (Nat.lt_irrefl _)
      · exact q, fun q => List.cons_lt_cons_iff.mpr (.inr ⟨rfl, q⟩)⟩
    rw [e3, ih]
    exact decide_eq_decide.mpr (by simp)
theorem take_step {α : Type} {l m : List α} {i : Nat} {x y : α} (e : l.take i = m.take i) (h1 : l[i]? = some x) (h2 : m[i]? = some y) (h : x = y) : l.take (i + 1) = m.take (i + 1) := by
  subst h
  rw [List.take_succ, List.take_succ, e, h1, h2]
theorem listLt_at : ∀ {l m : List Str} {i : Nat} {x y : Str}, l.take i = m.take i → l[i]? = some x → m[i]? = some y → x ≠ y → PySem.W.listLt l m = ltS x y
  | [], _, i, x, y, _, h, _, _ => by simp at h
  | _ :: _, [], i, x, y, _, _, h, _ => by simp at h
  | a :: l, b :: m, 0, x, y, _, h1, h2, h => by
    simp at h1 h2
    subst h1; subst h2
    rw [listLt_cons, if_neg h]
  | a :: l, b :: m, i + 1, x, y, e, h1, h2, h => by
    simp only [List.take_succ_cons, List.cons.injEq] at e
    obtain ⟨e1, e2⟩ := e
    subst e1
    rw [listLt_cons, if_pos rfl]
    exact listLt_at (i := i) e2 (by simpa using h1) (by simpa using h2) h
theorem listLt_self : ∀ l : List Str, PySem.W.listLt l l = false
  | [] => rfl
  | a :: l => by rw [listLt_cons, if_pos rfl, listLt_self l]
/-! the orders are total -/
theorem ltS_irr (a : Str) : ltS a a = false := decide_eq_false (List.lt_irrefl _)
theorem ltS_trans {a b c : Str} (h : ltS a b = true) (h2 : ltS b c = true) : ltS a c = true := decide_eq_true (List.lt_trans (of_decide_eq_true h) (of_decide_eq_true h2))
theorem ltS_asymm {a b : Str} (h : ltS a b = true) : ltS b a = false := by
  cases e : ltS b a with
  | false => rfl
  | true => have := ltS_trans h e; rw [ltS_irr] at this; cases this
theorem natlt_tri : ∀ {l m : List Nat}, ¬ l < m → ¬ m < l → l = m
  | [], [], _, _ => rfl
  | [], _ :: _, h, _ => absurd (by simp) h
  | _ :: _, [], _, h => absurd (by simp) h
  | a :: l, b :: m, h1, h2 => by
    rw [List.cons_lt_cons_iff] at h1 h2
    have e : a = b := by omega
    subst e
    rw [natlt_tri (fun h => h1 (.inr ⟨rfl, h⟩)) (fun h => h2 (.inr ⟨rfl, h⟩))]
theorem ltS_tri {a b : Str} (h : a ≠ b) (h1 : ltS a b = false) : ltS b a = true := by
  cases e : ltS b a with
  | true => rfl
  | false => exact absurd (str_ext (natlt_tri (of_decide_eq_false h1) (of_decide_eq_false e))) h
theorem listLt_trans : ∀ {a b c : List Str}, PySem.W.listLt a b = true → PySem.W.listLt b c = true → PySem.W.listLt a c = true
  | [], [], _, h, _ => by cases h
  | [], _ :: _, [], _, h => by cases h
  | [], _ :: _, _ :: _, _, _ => rfl
  | _ :: _, [], _, h, _ => by cases h
  | _ :: _, _ :: _, [], _, h => by cases h
  | x :: a, y :: b, z :: c, h1, h2 => by
    rw [listLt_cons] at h1 h2 ⊢
    by_cases e1 : x = y
    · subst e1
      rw [if_pos rfl] at h1
      by_cases e2 : x = z
      · subst e2
        rw [if_pos rfl] at h2 ⊢
        exact listLt_trans h1 h2
      · rw [if_neg e2] at h2 ⊢; exact h2
    · rw [if_neg e1] at h1
      by_cases e2 : y = z
      · subst e2
        rw [if_neg e1]; exact h1
      · rw [if_neg e2] at h2
        have h3 := ltS_trans h1 h2
        by_cases e3 : x = z
        · subst e3; rw [ltS_irr] at h3; cases h3
        · rw [if_neg e3]; exact h3
theorem listLt_tri : ∀ {a b : List Str}, a.length = b.length → PySem.W.listLt a b = false → PySem.W.listLt b a = false → a = b
  | [], [], _, _, _ => rfl
  | [], _ :: _, h, _, _ => by cases h
  | _ :: _, [], h, _, _ => by cases h
  | x :: a, y :: b, h, h1, h2 => by
    rw [listLt_cons] at h1 h2
    by_cases e : x = y
    · subst e
      rw [if_pos rfl] at h1 h2
      rw [listLt_tri (by simpa using h) h1 h2]
    · rw [if_neg e] at h1
      rw [if_neg (fun z => e z.symm)] at h2
      rw [ltS_tri e h1] at h2; cases h2
theorem ahead_irr (a : List Str) : aheadB a a = false := by
  unfold aheadB
  rw [if_pos rfl, listLt_self]
theorem ahead_trans {a b c : List Str} (h1 : aheadB a b = true) (h2 : aheadB b c = true) : aheadB a c = true := by
  unfold aheadB at h1 h2 ⊢
  split at h1 <;> split at h2
  · rw [if_pos (by omega)]; exact listLt_trans h1 h2
  · have := of_decide_eq_true h2
    rw [if_neg (by omega)]; exact decide_eq_true (by omega)
  · have := of_decide_eq_true h1
    rw [if_neg (by omega)]; exact decide_eq_true (by omega)
  · have q1 := of_decide_eq_true h1
    have q2 := of_decide_eq_true h2
    rw [if_neg (by omega)]; exact decide_eq_true (by omega)
theorem ahead_asymm {a b : List Str} (h : aheadB a b = true) : aheadB b a = false := by
  cases e : aheadB b a with
  | false => rfl
  | true => have := ahead_trans h e; rw [ahead_irr] at this; cases this
theorem ahead_tri {a b : List Str} (h1 : aheadB a b = false) (h2 : aheadB b a = false) : a = b := by
  unfold aheadB at h1 h2
  by_cases e : a.length = b.length
  · rw [if_pos e] at h1
    rw [if_pos e.symm] at h2
    exact listLt_tri e h1 h2
  · rw [if_neg e] at h1
    rw [if_neg (fun z => e z.symm)] at h2
    have := of_decide_eq_false h1
    have := of_decide_eq_false h2
    omega
/-- exactly one of the three -/
theorem one_of_three (a b : List Str) : [aheadB a b, aheadB b a, decide (a = b)].count true = 1 := by
  cases h1 : aheadB a b with
  | true =>
    have h2 := ahead_asymm h1
    have h3 : decide (a = b) = false := decide_eq_false fun e => by subst e; rw [ahead_irr] at h1; cases h1
    rw [h2, h3]; rfl
  | false =>
    cases h2 : aheadB b a with
    | true =>
      have h3 : decide (a = b) = false := decide_eq_false fun e => by subst e; rw [ahead_irr] at h2; cases h2
      rw [h3]; rfl
    | false =>
      rw [decide_eq_true (ahead_tri h1 h2)]; rfl
/-- sorted: none stands behind a later one -/
def Srt (l : List (List Str)) : Prop := l.Pairwise fun a b => aheadB b a = false
theorem lt_of_nlt_lt {a b c : List Str} (h1 : aheadB b a = false) (h2 : aheadB b c = true) : aheadB a c = true := by
  cases h : aheadB a b with
  | true => exact ahead_trans h h2
  | false => rw [ahead_tri h h1]; exact h2
/-- put in behind all that are ahead, the list stays sorted -/
theorem srt_insert : ∀ {l : List (List Str)} {x : List Str}, Srt l → Srt (l.take (l.filter fun y => aheadB y x).length ++ [x] ++ l.drop (l.filter fun y => aheadB y x).length)
  | [], x, _ => by simp [Srt]
  | a :: l, x, h => by
    obtain ⟨h1, h2⟩ := List.pairwise_cons.mp h
    have ih := srt_insert (x := x) h2
    cases e : aheadB a x with
    | true =>
      rw [List.filter_cons, if_pos e, List.length_cons, List.take_succ_cons, List.drop_succ_cons]
      refine List.pairwise_cons.mpr ⟨fun b hb => ?_, ih⟩
      rcases List.mem_append.mp hb with hb | hb
      · rcases List.mem_append.mp hb with hb | hb
        · exact h1 b (List.mem_of_mem_take hb)
        · cases List.mem_singleton.mp hb; exact ahead_asymm e
      · exact h1 b (List.mem_of_mem_drop hb)
    | false =>
      -- none of the rest is ahead of x, since none of it is ahead of a
      have nl : ∀ y ∈ l, aheadB y x = false := fun y hy => by
        cases e2 : aheadB y x with
        | false => rfl
        | true => rw [lt_of_nlt_lt (h1 y hy) e2] at e; cases e
      have e3 : (a :: l).filter (fun y => aheadB y x) = [] := by
        rw [List.filter_eq_nil_iff]
        intro y hy
        rcases List.mem_cons.mp hy with q | q
        · rw [q, e]; exact Bool.false_ne_true
        · rw [nl y q]; exact Bool.false_ne_true
      rw [e3]
      show Srt (x :: a :: l)
      refine List.pairwise_cons.mpr ⟨fun b hb => ?_, h⟩
      rcases List.mem_cons.mp hb with q | q
      · rw [q]; exact e
      · exact nl b q
theorem index_at {c : Nat} (h : 97 ≤ c) (h2 : c ≤ 122) : ∃ l, Builtin.Str.occurrences abc ⟨#[c]⟩ 0 abc.length 1 = (c - 97) :: l := by
  have e : ∀ i : Fin 26, (Builtin.Str.occurrences abc ⟨#[97 + i.val]⟩ 0 abc.length 1).head? = some i.val := by decide +kernel
  have q := e ⟨c - 97, by omega⟩
  rw [show 97 + (⟨c - 97, by omega⟩ : Fin 26).val = c from by show 97 + (c - 97) = c; omega] at q
  cases h3 : Builtin.Str.occurrences abc ⟨#[c]⟩ 0 abc.length 1 with
  | nil => rw [h3] at q; cases q
  | cons x l =>
    rw [h3] at q
    cases q
    exact ⟨l, rfl⟩
theorem nm_ok {z : Str} (h : Nm z) : PyData.strOk z = true := by
  unfold PyData.strOk
  rw [← Array.all_toList, List.all_eq_true]
  intro c hc
  exact decide_eq_true (by have := h.2.2 c hc; omega)
end Fk
set_option Elab.async false
set_option linter.all false
set_option maxRecDepth 100000
set_option maxHeartbeats 4000000
namespace Fk
open PySem L2 Fx
section
variable {P : Program} {w : World} {K : PySem.W.Frag} {mg : Str → Option Value} {base : Heap}
/-! ### the law's own order -/
theorem ok_lesser (T : Tx K mg) : FnOk P w K mg base CX0 1 T.a_l_lesser T.d_l_lesser ["_law_near", "_law_far"] (spD K (fun ds => ∃ a b : Str, ds = [.str a, .str b] ∧ Nm a ∧ Nm b) (fun ds d => ∃ a b : Str, ds = [.str a, .str b] ∧ d = .bl (ltS a b))) :=
  Fx.Fun.okD T.f_l_lesser sc_l_lesser (fun ds ⟨_, _, q, _⟩ => by rw [q]; rfl) fun cdv A outer s E ds vs B H hr hx r hp => by
    obtain ⟨a, b, rfl, ha, hb⟩ := hp
    obtain ⟨v, u, rfl, rv, ru⟩ := rpl2 r
    cases Rp.str.mp rv
    cases Rp.str.mp ru
    have la : a.length ≤ sizeLine := Nat.le_trans ha.2.1 (by decide)
    have lb : b.length ≤ sizeLine := Nat.le_trans hb.2.1 (by decide)
    refine rb_set (i := 2) (P := Eq (.str abc)) sc_l_lesser.nd en_str hx fun v1 d1 B1 H1 s1 q1 r1 => ?_
    subst q1
    cases Rp.str.mp r1
    refine rb_for (g := gName 3) (set := set1 3) (parts := fun d => some [d]) PassesOwn.never rfl (wi_rangeE (n := ((min a.length b.length : Nat) : Int)) (EN.eq (en_callB T.z_min bt_min (ea_cons (en_callB T.z_len bt_len (ea_cons (en_var (i := 0) rfl (Rp.str.mpr rfl)) ea_nil) fun ds q => q ▸ cd_lenS la) (ea_cons (en_callB T.z_len bt_len (ea_cons (en_var (i := 1) rfl (Rp.str.mpr rfl)) ea_nil) fun ds q => q ▸ cd_lenS lb) ea_nil)) fun ds q => q ▸ cd_min rfl) ?_) ?_ T.z_range)
      (pg_name sc_l_lesser.nd rfl (Or.inl rfl)) (gt_name 3) s1.bh fun ds B2 H2 s2 hds => ?_
    · congr 1
      split <;> omega
    · have h8 := ha.2.1
      constructor <;> omega
    subst hds
    refine ⟨fun i σ1 B3 H3 => ∃ a3 : Option V, B3 = B2 ∧ Ex B2 H3 ∧ Ex H H3 ∧ a.cps.toList.take i = b.cps.toList.take i ∧ σ1 = [some (.str a), some (.str b), some (.str abc), a3], ⟨none, rfl, s2.bh, s1.h.trans s2.h, rfl, rfl⟩,
      (fun i σ1 B3 H3 ⟨a3, e, x, _⟩ => by subst e; exact ⟨Ex.refl _, x⟩), ?_, ?_⟩
    · rintro i d σ1 B3 H3 hd ⟨a3, rfl, x1, x2, htk, rfl⟩
      have hi : i < min a.length b.length := by
        have := (List.getElem?_eq_some_iff.mp hd).1
        rw [upTo_length] at this
        omega
      rw [upTo_at (by omega)] at hd
      cases hd
      refine ⟨[.int (i : Int)], rfl, fun B4 H4 us s4 rus => ?_⟩
      obtain ⟨kv, rfl, rk⟩ := rpl1 rus
      cases Rp.int.mp rk
      have ia : i < a.cps.toList.length := by rw [← len_list]; omega
      have ib : i < b.cps.toList.length := by rw [← len_list]; omega
      have ea : a.cps.toList[i]? = some a.cps.toList[i] := List.getElem?_eq_getElem ia
      have eb : b.cps.toList[i]? = some b.cps.toList[i] := List.getElem?_eq_getElem ib
      generalize a.cps.toList[i] = x at ea
      generalize b.cps.toList[i] = y at eb
      have y1 : Ex B3 H4 := s4.b.trans s4.bh
      have ta : ∀ {X : Cx}, IxD X (.str a) (.int (i : Int)) (Eq (.str ⟨#[x]⟩)) := ix_text la (Fx.atI_nat ea)
      have tb : ∀ {X : Cx}, IxD X (.str b) (.int (i : Int)) (Eq (.str ⟨#[y]⟩)) := ix_text lb (Fx.atI_nat eb)
      have hxy : ((⟨#[x]⟩ : Str) = ⟨#[y]⟩) ↔ x = y := ⟨fun h => by simpa using congrArg (fun z : Str => z.cps.toList) h, fun h => by rw [h]⟩
      refine rb_if0 (t := !decide ((⟨#[x]⟩ : Str) = ⟨#[y]⟩)) (ed_tcmp (ed_ix (en_var (i := 0) rfl (Rp.str.mpr rfl)) (en_var (i := 3) rfl (Rp.int.mpr rfl)) ta) (ed_ix (en_var (i := 1) rfl (Rp.str.mpr rfl)) (en_var (i := 3) rfl (Rp.int.mpr rfl)) tb) od_neT) y1 (fun ht B5 H5 s5 => ?_) (fun hf B5 H5 s5 => ?_)
      · have hne : x ≠ y := fun z => by rw [decide_eq_true (hxy.mpr z)] at ht; cases ht
        have cx := ha.2.2 x (List.mem_of_getElem? ea)
        have cy := hb.2.2 y (List.mem_of_getElem? eb)
        obtain ⟨l1, h1⟩ := index_at cx.1 cx.2
        obtain ⟨l2, h2⟩ := index_at cy.1 cy.2
        refine rb_ret (P := Eq (.bl (ltS a b))) (EN.eq (ed_cmp (en_bm (dx := .str abc) (PL := Eq [.str ⟨#[x]⟩]) rfl PySem.F.plainAttrs_str PySem.F.slot_str_index PySem.F.type_str_index (en_var (i := 2) rfl (Rp.str.mpr rfl)) (ea_cons (ed_ix (en_var (i := 0) rfl (Rp.str.mpr rfl)) (en_var (i := 3) rfl (Rp.int.mpr rfl)) ta) ea_nil) fun ds q => q ▸ md_sindex h1)
          (en_bm (dx := .str abc) (PL := Eq [.str ⟨#[y]⟩]) rfl PySem.F.plainAttrs_str PySem.F.slot_str_index PySem.F.type_str_index (en_var (i := 2) rfl (Rp.str.mpr rfl)) (ea_cons (ed_ix (en_var (i := 1) rfl (Rp.str.mpr rfl)) (en_var (i := 3) rfl (Rp.int.mpr rfl)) tb) ea_nil) fun ds q => q ▸ md_sindex h2) od_lt) ?_) (s5.b.trans s5.bh) fun v d B6 H6 s6 q6 r6 => ?_
        · unfold ltS
          rw [lt_at htk ea eb hne]
          congr 1
          exact decide_eq_decide.mpr (by omega)
        · exact Ret.step (Fx.Step.grow (s1.trans s2) (s5.b.trans s5.bh) ((x2.trans s4.h).trans s5.h)) (Ret.of s6 ⟨a, b, rfl, q6.symm⟩ r6)
      · have hxe : x = y := hxy.mp (of_decide_eq_true (by simpa using hf))
        exact rb_nil ⟨B3, _, rfl, s5.b.trans s5.bh, (x2.trans s4.h).trans s5.h, take_step htk ea eb hxe, rfl⟩
    · rintro σ1 B3 H3 ⟨a3, rfl, x1, x2, htk, rfl⟩
      rw [upTo_length] at htk
      refine rb_ret (P := Eq (.bl (ltS a b))) (EN.eq (ed_cmp (en_callB T.z_len bt_len (ea_cons (en_var (i := 0) rfl (Rp.str.mpr rfl)) ea_nil) fun ds q => q ▸ cd_lenS la) (en_callB T.z_len bt_len (ea_cons (en_var (i := 1) rfl (Rp.str.mpr rfl)) ea_nil) fun ds q => q ▸ cd_lenS lb) od_lt) ?_) x1 fun v d B6 H6 s6 q6 r6 => Ret.step (Fx.Step.grow (s1.trans s2) x1 x2) (Ret.of s6 ⟨a, b, rfl, q6.symm⟩ r6)
      unfold ltS
      rw [lt_end (by rw [← len_list, ← len_list]; exact htk)]
      congr 1
      exact decide_eq_decide.mpr (by rw [← len_list, ← len_list]; omega)
theorem ok_ahead (T : Tx K mg) : FnOk P w K mg base CX0 2 T.a_l_ahead T.d_l_ahead ["_law_one_word", "_law_two_word"] (spD K (fun ds => ∃ a b : List Str, ds = [.lst (D.strs a), .lst (D.strs b)] ∧ (∀ z ∈ a, Nm z) ∧ (∀ z ∈ b, Nm z)) (fun ds d => ∃ a b : List Str, ds = [.lst (D.strs a), .lst (D.strs b)] ∧ d = .bl (aheadB a b))) :=
  Fx.Fun.okD T.f_l_ahead sc_l_ahead (fun ds ⟨_, _, q, _⟩ => by rw [q]; rfl) fun cdv A outer s E ds vs B H hr hx r hp => by
    obtain ⟨a, b, rfl, ha, hb⟩ := hp
    obtain ⟨v, u, rfl, rv, ru⟩ := rpl2 r
    have hr1 : Room 1 _ := hr
    have la : (D.strs a).length = a.length := List.length_map _
    have lb : (D.strs b).length = b.length := List.length_map _
    refine rb_if0 (t := !decide (a.length = b.length)) (ET.eq (ed_tcmp (en_callB T.z_len bt_len (ea_cons (en_var (i := 0) rfl rv) ea_nil) fun ds q => q ▸ cd_lenL) (en_callB T.z_len bt_len (ea_cons (en_var (i := 1) rfl ru) ea_nil) fun ds q => q ▸ cd_lenL) od_neI) ?_) hx (fun ht B1 H1 s1 => ?_) (fun hf B1 H1 s1 => ?_)
    · rw [la, lb]
      exact congrArg _ (decide_eq_decide.mpr (by omega))
    · refine rb_ret (P := Eq (.bl (aheadB a b))) (EN.eq (ed_cmp (en_callB T.z_len bt_len (ea_cons (en_var (i := 0) rfl (rv.mono s1.b)) ea_nil) fun ds q => q ▸ cd_lenL) (en_callB T.z_len bt_len (ea_cons (en_var (i := 1) rfl (ru.mono s1.b)) ea_nil) fun ds q => q ▸ cd_lenL) od_lt) ?_) s1.bh fun v d B6 H6 s6 q6 r6 => Ret.step s1 (Ret.of s6 ⟨a, b, rfl, q6.symm⟩ r6)
      unfold aheadB
      have hne : ¬ a.length = b.length := fun z => by rw [decide_eq_true z] at ht; cases ht
      rw [if_neg hne, la, lb]
      congr 1
      exact decide_eq_decide.mpr (by omega)
    · have hle : a.length = b.length := of_decide_eq_true (by simpa using hf)
      refine rb_for (g := gTup K 2 (gCons (gName 2) (gCons (gName 3) gNil))) (set := set2 2 3) (parts := pair?) PassesOwn.never rfl (wi_zip (ea_cons (en_var (i := 0) rfl (rv.mono s1.b)) (ea_cons (en_var (i := 1) rfl (ru.mono s1.b)) ea_nil)) T.z_zip) (pg_tup rfl (pgs_cons (pg_name sc_l_ahead.nd rfl (Or.inl rfl)) (pgs_cons (pg_name sc_l_ahead.nd rfl (Or.inl rfl)) pgs_nil))) (gt_pair 2 3) s1.bh fun ds B2 H2 s2 hds => ?_
      subst hds
      refine ⟨fun i σ1 B3 H3 => ∃ a2 a3 : Option V, B3 = B2 ∧ Ex B2 H3 ∧ Ex H H3 ∧ a.take i = b.take i ∧ σ1 = [some v, some u, a2, a3], ⟨none, none, rfl, s2.bh, s1.h.trans s2.h, rfl, rfl⟩,
        (fun i σ1 B3 H3 ⟨_, _, e, x, _⟩ => by subst e; exact ⟨Ex.refl _, x⟩), ?_, ?_⟩
      · rintro i d σ1 B3 H3 hd ⟨a2, a3, rfl, x1, x2, htk, rfl⟩
        have hi : i < (zipD (D.strs a) (D.strs b)).length := (List.getElem?_eq_some_iff.mp hd).1
        rw [zipD_length, la, lb] at hi
        have ea : a[i]? = some a[i] := List.getElem?_eq_getElem (by omega)
        have eb : b[i]? = some b[i] := List.getElem?_eq_getElem (by omega)
        generalize a[i] = x at ea
        generalize b[i] = y at eb
        have hd' : (zipD (D.strs a) (D.strs b))[i]? = some (.tup [.str x, .str y]) := by
          unfold zipD
          rw [List.getElem?_map, (List.getElem?_zip_eq_some (z := (D.str x, D.str y))).mpr ⟨by unfold D.strs; rw [List.getElem?_map, ea]; rfl, by unfold D.strs; rw [List.getElem?_map, eb]; rfl⟩]; rfl
        rw [hd'] at hd
        cases hd
        refine ⟨[.str x, .str y], rfl, fun B4 H4 us s4 rus => ?_⟩
        obtain ⟨v1, v2, rfl, r1, r2⟩ := rpl2 rus
        cases Rp.str.mp r1
        cases Rp.str.mp r2
        have y1 : Ex B3 H4 := s4.b.trans s4.bh
        refine rb_if0 (t := !decide (x = y)) (ed_tcmp (en_var (i := 2) rfl (Rp.str.mpr rfl)) (en_var (i := 3) rfl (Rp.str.mpr rfl)) od_neT) y1 (fun ht B5 H5 s5 => ?_) (fun hf B5 H5 s5 => ?_)
        · have hne : x ≠ y := fun z => by rw [decide_eq_true z] at ht; cases ht
          refine rb_ret (P := Eq (.bl (aheadB a b))) (EN.imp (ed_callO (ok_lesser T) hr1 T.m_l_lesser T.f_l_lesser.kp T.b_l_lesser (ea_cons (en_var (i := 2) rfl (Rp.str.mpr rfl)) (ea_cons (en_var (i := 3) rfl (Rp.str.mpr rfl)) ea_nil)) ⟨x, y, rfl, ha x (List.mem_of_getElem? ea), hb y (List.mem_of_getElem? eb)⟩) ?_) (s5.b.trans s5.bh) fun v d B6 H6 s6 q6 r6 => ?_
          · rintro d ⟨x', y', q, rfl⟩
            injection q with q1 q
            injection q with q2 _
            injection q1 with q1
            injection q2 with q2
            subst q1; subst q2
            unfold aheadB
            rw [if_pos hle, listLt_at htk ea eb hne]
          · exact Ret.step (Fx.Step.grow (s1.trans s2) (s5.b.trans s5.bh) ((x2.trans s4.h).trans s5.h)) (Ret.of s6 ⟨a, b, rfl, q6.symm⟩ r6)
        · have hxe : x = y := of_decide_eq_true (by simpa using hf)
          exact rb_nil ⟨B3, _, _, rfl, s5.b.trans s5.bh, (x2.trans s4.h).trans s5.h, take_step htk ea eb hxe, rfl⟩
      · rintro σ1 B3 H3 ⟨a2, a3, rfl, x1, x2, htk, rfl⟩
        rw [zipD_length, la, lb, hle, Nat.min_self, List.take_of_length_le (by omega), List.take_of_length_le (by omega)] at htk
        refine rb_ret en_bl x1 fun v d B6 H6 s6 q6 r6 => Ret.step (Fx.Step.grow (s1.trans s2) x1 x2) (Ret.of s6 ⟨a, b, rfl, ?_⟩ r6)
        subst htk
        rw [ahead_irr]; exact q6.symm
end
end Fk
set_option Elab.async false
set_option linter.all false
set_option maxRecDepth 100000
set_option maxHeartbeats 4000000
namespace Fk
open PySem L2 Fx
/-- lists of at most k names -/
def Nms (k : Nat) (d : D) : Prop := ∃ ws : List Str, d = .lst (D.strs ws) ∧ (∀ z ∈ ws, Nm z) ∧ ws.length ≤ k
section
variable {P : Program} {w : World} {K : PySem.W.Frag} {mg : Str → Option Value} {base : Heap}
theorem ok_near (T : Tx K mg) : FnOk P w K mg base CX0 3 T.a_l_near_labels T.d_l_near_labels ["_law_pot_here"] (spD K (fun ds => ds = [.pot]) (fun _ d => ∃ ws : List Str, d = .lst (D.strs ws) ∧ (∀ z ∈ ws, Nm z) ∧ ws ≠ [] ∧ ws.length ≤ 8)) :=
  Fx.Fun.okD T.f_l_near_labels sc_l_near_labels (fun ds q => by rw [q]; rfl) fun cdv A outer s E ds vs B H hr hx r hp => by
    subst hp
    obtain ⟨v, rfl, rv⟩ := rpl1 r
    refine rb_set (i := 1) (P := fun d => ∃ ws : List Str, d = .lst (D.strs ws) ∧ ws.length = 2 ∧ (∀ z ∈ ws, Nm z)) sc_l_near_labels.nd (EN.imp (ed_callO (ok_labels T) hr T.m_l_labels T.f_l_labels.kp T.b_l_labels (ea_cons (en_var (i := 0) rfl rv) (ea_cons en_int ea_nil)) ⟨2, rfl, by decide⟩) ?_) hx fun v1 d1 B1 H1 s1 q1 r1 => ?_
    · rintro d ⟨ws, rfl, q, h, _⟩
      injection q with _ q
      injection q with q _
      injection q with q
      exact ⟨ws, rfl, by omega, h⟩
    obtain ⟨us, rfl, hl, hus⟩ := q1
    refine rb_setF (i := 2) (PL := Eq (D.strs us)) sc_l_near_labels.nd (ef_callTy T.z_list bt_list (ea_cons (en_var (i := 1) rfl r1) ea_nil) fun ds q => q ▸ cdf_listL) s1.bh fun p ds vs B2 H2 s2 n1 n2 h2 pl r2 => ?_
    subst pl
    cases r2.toStrs
    have st2 := s1.trans s2
    have n0 : H p = none := s1.h.back n1
    refine rb_for (g := gName 3) (set := set1 3) (parts := fun d => some [d]) PassesOwn.never rfl (wi_lstE (en_var (i := 1) rfl (r1.mono s2.b))) (pg_name sc_l_near_labels.nd rfl (Or.inl rfl)) (gt_name 3) s2.bh fun ds B3 H3 s3 hds => ?_
    subst hds
    have st3 := st2.trans s3
    have kp := s3.keep n2 h2
    -- the loops' word: at most m names
    have word : ∀ (σ1 : L2.St) (B4 H4 : Hp), True := fun _ _ _ => trivial
    refine ⟨fun i σ1 B4 H4 => ∃ (ws : List Str) (a3 a4 : Option V), B4 = B3 ∧ Ex B3 H4 ∧ Ex H H4 ∧ H4 p = some (.lst (ws.map V.str)) ∧ 2 ≤ ws.length ∧ ws.length ≤ 2 + 3 * i ∧ (∀ z ∈ ws, Nm z) ∧ σ1 = [some v, some v1, some (.ref p), a3, a4],
      ⟨us, none, none, rfl, s3.bh, st3.h, kp.2, by omega, by omega, hus, rfl⟩, (fun i σ1 B4 H4 ⟨_, _, _, e, x, _⟩ => by subst e; exact ⟨Ex.refl _, x⟩), ?_, ?_⟩
    · rintro i d σ1 B4 H4 hd ⟨ws, a3, a4, rfl, x1, x2, hp4, hw1, hw2, hnm, rfl⟩
      unfold D.strs at hd
      rw [List.getElem?_map] at hd
      obtain ⟨z, hz, rfl⟩ := Option.map_eq_some_iff.mp hd
      have hzn := hus z (List.mem_of_getElem? hz)
      have hzl : z.length ≤ sizeLine := Nat.le_trans hzn.2.1 (by decide)
      refine ⟨[.str z], rfl, fun B5 H5 us5 s5 rus => ?_⟩
      obtain ⟨zv, rfl, rz⟩ := rpl1 rus
      cases Rp.str.mp rz
      have y1 : Ex B4 H5 := s5.b.trans s5.bh
      have small : ∀ {c : Nat}, (cutS z none (some 7)).length + c ≤ 8 + c := fun {c} => Nat.add_le_add_right (Nat.le_trans (cutS_length z none (some 7)) hzn.2.1) c
      refine rb_for (g := gName 4) (set := set1 4) (parts := fun d => some [d]) PassesOwn.never rfl (wi_lstE (ds := D.strs [cutS z none (some 1), cutS z none (some 7) ++ "a", cutS z none (some 7) ++ "z"]) (en_lst (ea_cons (en_slS (en_var (i := 3) rfl (Rp.str.mpr rfl)) eo_none (eo_some en_int) hzl)
        (ea_cons (ed_op (en_slS (en_var (i := 3) rfl (Rp.str.mpr rfl)) eo_none (eo_some en_int) hzl) en_str (od_addS (Nat.le_trans (small (c := 1)) (by decide)))) (ea_cons (ed_op (en_slS (en_var (i := 3) rfl (Rp.str.mpr rfl)) eo_none (eo_some en_int) hzl) en_str (od_addS (Nat.le_trans (small (c := 1)) (by decide)))) ea_nil))) (by exact (by decide : 3 ≤ sizeLine))))
        (pg_name sc_l_near_labels.nd rfl (Or.inl rfl)) (gt_name 4) y1 fun ds B6 H6 s6 hds => ?_
      subst hds
      have hnear : ∀ y ∈ [cutS z none (some 1), cutS z none (some 7) ++ "a", cutS z none (some 7) ++ "z"], Nm y := fun y hy => by
        simp only [List.mem_cons, List.not_mem_nil, or_false] at hy
        rcases hy with rfl | rfl | rfl
        · exact nm_first hzn
        · exact nm_near hzn (c := 97) (by decide +kernel) ⟨by decide, by decide⟩
        · exact nm_near hzn (c := 122) (by decide +kernel) ⟨by decide, by decide⟩
      have k6 := s6.nw p kp.1 (by rw [s5.h _ _ hp4]; exact fun z => nomatch z)
      refine ⟨fun j σ1 B7 H7 => ∃ (ys : List Str) (a4 : Option V), B7 = B6 ∧ Ex B6 H7 ∧ Ex H H7 ∧ H7 p = some (.lst (ys.map V.str)) ∧ 2 ≤ ys.length ∧ ys.length ≤ ws.length + j ∧ (∀ z ∈ ys, Nm z) ∧ σ1 = [some v, some v1, some (.ref p), some (.str z), a4],
        ⟨ws, a4, rfl, s6.bh, (x2.trans s5.h).trans s6.h, s6.h _ _ (s5.h _ _ hp4), hw1, by omega, hnm, rfl⟩, (fun i σ1 B4 H4 ⟨_, _, e, x, _⟩ => by subst e; exact ⟨Ex.refl _, x⟩), ?_, ?_⟩
      · rintro j d σ1 B7 H7 hd ⟨ys, a4, rfl, y1, y2, hp7, hy1, hy2, hyn, rfl⟩
        unfold D.strs at hd
        rw [List.getElem?_map] at hd
        obtain ⟨y, hy, rfl⟩ := Option.map_eq_some_iff.mp hd
        have hyN := hnear y (List.mem_of_getElem? hy)
        have hj : j < 3 := (List.getElem?_eq_some_iff.mp hy).1
        have hi : i < us.length := (List.getElem?_eq_some_iff.mp hz).1
        refine ⟨[.str y], rfl, fun B8 H8 us8 s8 rus => ?_⟩
        obtain ⟨yv, rfl, ry⟩ := rpl1 rus
        cases Rp.str.mp ry
        have z1 : Ex B7 H8 := s8.b.trans s8.bh
        have hp8 := s8.h _ _ hp7
        have fd2 : Rp K (upd B7 p (.lst (ys.map V.str))) (.lst (D.strs ys)) (.ref p) := Rp.lst.mpr ⟨p, _, rfl, upd_same, RpL.strs.mpr rfl⟩
        refine rb_if0 (t := !decide (y ∈ ys)) (ed_tcmp (en_var (i := 4) rfl (Rp.str.mpr rfl)) (en_var (i := 2) rfl fd2) od_niLs) (z1.upd_left hp8) (fun ht B9 H9 s9 => ?_) (fun hf B9 H9 s9 => ?_)
        · refine rb_appendX (i := 2) (q := p) (vs := ys.map V.str) (P := Eq (.str y)) rfl (s9.h _ _ hp8) (by rw [List.length_map]; exact Nat.lt_of_lt_of_le (by omega : ys.length < 20) (by decide)) (en_var (i := 4) (B := fun _ => none) rfl (Rp.str.mpr rfl)) (fun _ _ z => nomatch z) fun v7 d7 B10 H10 s10 q10 r10 => rb_nil (rb_nil ?_)
          subst q10
          cases Rp.str.mp r10
          refine ⟨B7, ys ++ [y], _, rfl, ((z1.trans s9.h).trans s10.h).wr k6, (((y2.trans s8.h).trans s9.h).trans s10.h).wr n0, by rw [upd_same, List.map_append]; rfl, by rw [List.length_append]; omega, by rw [List.length_append, List.length_singleton]; omega, fun q hq => ?_, rfl⟩
          rcases List.mem_append.mp hq with h | h
          · exact hyn q h
          · cases List.mem_singleton.mp h; exact hyN
        · exact rb_nil ⟨B7, ys, _, rfl, z1.trans s9.h, (y2.trans s8.h).trans s9.h, s9.h _ _ hp8, hy1, by omega, hyn, rfl⟩
      · rintro σ1 B7 H7 ⟨ys, a4, rfl, y1, y2, hp7, hy1, hy2, hyn, rfl⟩
        exact rb_nil ⟨B4, ys, _, _, rfl, s6.b.trans y1, y2, hp7, hy1, by simp only [D.strs, List.length_map, List.length_cons, List.length_nil] at hy2; omega, hyn, rfl⟩
    · rintro σ1 B4 H4 ⟨ws, a3, a4, rfl, x1, x2, hp4, hw1, hw2, hnm, rfl⟩
      simp only [D.strs, List.length_map] at hw2
      refine rb_ret (P := Eq (.lst (D.strs ws))) (en_var (i := 2) (B := upd B4 p (.lst (ws.map V.str))) rfl (Rp.lst.mpr ⟨p, _, rfl, upd_same, RpL.strs.mpr rfl⟩)) (x1.upd_left hp4) fun v4 d4 B5 H5 s5 q4 r4 => ?_
      exact Ret.of ((Fx.Step.share (Fx.Step.grow st3 x1 x2) n0 kp.1 hp4).trans s5) ⟨ws, q4.symm, hnm, fun z => by rw [z] at hw1; simp at hw1, by omega⟩ r4
end
end Fk
set_option Elab.async false
set_option linter.all false
set_option maxRecDepth 100000
set_option maxHeartbeats 4000000
namespace Fk
open PySem L2 Fx
theorem en_pick {X : Cx} {f : Addr} {fd : FuncData} {a b : Expr} {p pos : Pos} {σ : L2.St} {B : Hp} {ws : List Str} (F : FnOk X.prog X.w X.K X.mg X.base CX0 2 f fd ["_law_pot_here", "_law_some"] (spD X.K (fun ds => ∃ xs : List D, ds = [.pot, .lst xs] ∧ xs ≠ [] ∧ xs.length < 2 ^ 20) (fun ds d => ∃ xs : List D, ds = [.pot, .lst xs] ∧ d ∈ xs))) (hr : Room 2 X.A) (hm : X.mg "_law_pick" = some (.ref f)) (hk : PySem.W.keepIn X.K (.ref f) = true) (hb : Binds X.K fd ["_law_pot_here", "_law_some"] [])
    (ha : EN X a σ B (Eq .pot)) (hb2 : EN X b σ B (Eq (.lst (D.strs ws)))) (h0 : ws ≠ []) (h1 : ws.length < 2 ^ 20) (hg : Gl X "_law_pick" := by rfl) (he : starEach [a, b] X.env = (false, eval a X.env) :: starEach [b] X.env := by rfl) (he2 : starEach [b] X.env = (false, eval b X.env) :: starEach [] X.env := by rfl) (hpl : (backTo pos (starEach [b] X.env)).any (·.1) = false := by rfl) :
    EN X (.Call (.Name "_law_pick" p) [a, b] [] pos) σ B (fun d => ∃ z ∈ ws, d = .str z) :=
  EN.imp (ed_callO (pos := pos) F hr hm hk hb (ea_cons ha (ea_cons hb2 ea_nil he2) he) ⟨_, rfl, by simpa [D.strs] using h0, by simpa [D.strs] using h1⟩ hg (by decide) he hpl) fun d ⟨xs, q, h⟩ => by
    injection q with _ q
    injection q with q _
    injection q with q
    subst q
    obtain ⟨z, hz, rfl⟩ := List.mem_map.mp h
    exact ⟨z, hz, rfl⟩
section
variable {P : Program} {w : World} {K : PySem.W.Frag} {mg : Str → Option Value} {base : Heap}
theorem strs_app (a b : List Str) : D.strs (a ++ b) = D.strs a ++ D.strs b := List.map_append
theorem cut_to (ws : List Str) {i : Int} (h : 0 ≤ i) : cutD (D.strs ws) none (some i) = D.strs (ws.take i.toNat) := by
  have e := cutD_to (D.strs ws) i.toNat
  rw [show ((i.toNat : Nat) : Int) = i from by omega] at e
  rw [e]; unfold D.strs; rw [List.map_take]
theorem cut_from (ws : List Str) {i : Int} (h : 0 ≤ i) : cutD (D.strs ws) (some i) none = D.strs (ws.drop i.toNat) := by
  have e := cutD_from (D.strs ws) i.toNat
  rw [show ((i.toNat : Nat) : Int) = i from by omega] at e
  rw [e]; unfold D.strs; rw [List.map_drop]
theorem ok_bent (T : Tx K mg) : FnOk P w K mg base CX0 3 T.a_l_bent T.d_l_bent ["_law_pot_here", "_law_word", "_law_labels_here"] (spD K (fun ds => ∃ ws ls : List Str, ds = [.pot, .lst (D.strs ws), .lst (D.strs ls)] ∧ (∀ z ∈ ws, Nm z) ∧ (∀ z ∈ ls, Nm z) ∧ ls ≠ [] ∧ ws.length ≤ 64 ∧ ls.length ≤ 64) (fun ds d => ∃ ws ls : List Str, ds = [.pot, .lst (D.strs ws), .lst (D.strs ls)] ∧ Nms (ws.length + 1) d)) :=
  Fx.Fun.okD T.f_l_bent sc_l_bent (fun ds ⟨_, _, q, _⟩ => by rw [q]; rfl) fun cdv A outer s E ds vs B H hr hx r hp => by
    obtain ⟨ws, ls, rfl, hws, hls, hne, lw, ll⟩ := hp
    obtain ⟨v, u, x, rfl, rv, ru, rx⟩ := rpl3 r
    have hr1 : Room 1 _ := hr.mono (by decide)
    have hu : A.units + 3 + 64 < cLine := by have := hr.un; show _ < _; have e : (A.deeper (PyProof.Rows.envOfC "_law_bent" (defScope s_l_bent) s.heap.objs.size T.a_l_bent cdv)).units = A.units + 3 := rfl; omega
    have pick : ∀ {B1 : Hp} {σ : L2.St} {p pos p1 p2 : Pos}, Ex B B1 → σ[0]? = some (some v) → σ[2]? = some (some x) → EN (cxOf CX0 P w K mg base N_l_bent "_law_bent" (defScope s_l_bent) T.a_l_bent cdv A outer s H E).nox (.Call (.Name "_law_pick" p) [.Name "_law_pot_here" p1, .Name "_law_labels_here" p2] [] pos) σ B1 (fun d => ∃ z ∈ ls, d = .str z) :=
      fun x1 h0 h2 => en_pick (ok_pick T) hr T.m_l_pick T.f_l_pick.kp T.b_l_pick (en_var (i := 0) h0 (rv.mono x1)) (en_var (i := 2) h2 (rx.mono x1)) hne (by omega)
    refine rb_if0 (t := decide (ws = [])) (ed_tcmp (en_var (i := 1) rfl ru) (en_lst ea_nil) (od_eqLs (us := []) hu (fun z hz => nm_ok (hws z hz)) (fun _ h => nomatch h))) hx (fun ht B1 H1 s1 => ?_) (fun hf B1 H1 s1 => ?_)
    · refine rb_ret (P := Nms (ws.length + 1)) (EN.imp (EF.sh (ef_lst (ea_consN (pick s1.b rfl rfl) ea_nil) ?_)) ?_) s1.bh fun v d B2 H2 s2 q2 r2 => Ret.step s1 (Ret.of s2 ⟨ws, ls, rfl, q2⟩ r2)
      · rintro ds ⟨d, _, rfl, _, rfl⟩
        exact (by decide : 1 ≤ sizeLine)
      · rintro d ⟨ds, rfl, _, _, rfl, ⟨z, hz, rfl⟩, rfl⟩
        exact ⟨[z], rfl, fun y hy => by cases List.mem_singleton.mp hy; exact hls z hz, by simp⟩
    · have hwne : ws ≠ [] := of_decide_eq_false hf
      have hpos := List.length_pos_iff.mpr hwne
      have llen : (D.strs ws).length = ws.length := List.length_map _
      refine rb_par2 (i := 3) (j := 4) rfl sc_l_bent.nd (en_draw (m := (ws.length : Nat)) (ok_draw T) hr1 T.m_l_draw T.f_l_draw.kp T.b_l_draw (en_var (i := 0) rfl (rv.mono s1.b)) (EN.eq (en_callB T.z_len bt_len (ea_cons (en_var (i := 1) rfl (ru.mono s1.b)) ea_nil) fun ds q => q ▸ cd_lenL) (by rw [llen])) (by omega) (by omega))
        (en_draw (ok_draw T) hr1 T.m_l_draw T.f_l_draw.kp T.b_l_draw (en_var (i := 0) rfl (rv.mono s1.b)) en_int (by decide) (by decide)) s1.bh (by decide) fun v3 d3 v4 d4 B2 H2 s2 q3 r3 q4 r4 => ?_
      obtain ⟨at_, rfl, a0, a1⟩ := q3
      obtain ⟨way, rfl, _, _⟩ := q4
      cases Rp.int.mp r3
      cases Rp.int.mp r4
      have st2 := s1.trans s2
      have cut1 : ∀ n, ∀ z ∈ ws.take n, Nm z := fun n z hz => hws z (List.mem_of_mem_take hz)
      have cut2 : ∀ n, ∀ z ∈ ws.drop n, Nm z := fun n z hz => hws z (List.mem_of_mem_drop hz)
      have big : ∀ {n : Nat}, n ≤ 200 → n ≤ sizeLine := fun h => Nat.le_trans h (by decide)
      refine rb_if0 (t := decide (way = 0)) (ed_tcmp (en_var (i := 4) rfl (Rp.int.mpr rfl)) en_int od_eqI) s2.bh (fun ht B3 H3 s3 => ?_) (fun _ B3 H3 s3 => ?_)
      · have st3 := st2.trans s3
        refine rb_ret (P := Nms (ws.length + 1)) (EN.imp (EF.shEq (ds := D.strs (ws.take at_.toNat) ++ D.strs (ws.drop (at_ + 1).toNat)) (ef_op (Pa := Eq (.lst (D.strs (ws.take at_.toNat)))) (Pb := Eq (.lst (D.strs (ws.drop (at_ + 1).toNat)))) (EF.shEq (EF.imp (ef_slL (en_var (i := 1) rfl (ru.mono st3.b)) eo_none (eo_some (en_var (i := 3) rfl (Rp.int.mpr rfl)))) fun d q => q ▸ (cut_to ws a0).symm))
          (EF.shEq (EF.imp (ef_slL (en_var (i := 1) rfl (ru.mono st3.b)) (eo_some (ed_op (en_var (i := 3) rfl (Rp.int.mpr rfl)) en_int od_add)) eo_none) fun d q => q ▸ (cut_from ws (by omega)).symm)) ?_)) ?_) s3.bh fun v d B4 H4 s4 q4 r4 => Ret.step st3 (Ret.of s4 ⟨ws, ls, rfl, q4⟩ r4)
        · rintro x y rfl rfl
          exact odf_cat (by simp only [D.strs, List.length_map, List.length_take, List.length_drop]; exact big (by omega))
        · rintro d rfl
          refine ⟨ws.take at_.toNat ++ ws.drop (at_ + 1).toNat, by rw [strs_app], fun z hz => ?_, by simp only [List.length_append, List.length_take, List.length_drop]; omega⟩
          rcases List.mem_append.mp hz with h | h
          · exact cut1 _ z h
          · exact cut2 _ z h
      · have three : ∀ {B4 H4 : Hp} {lo : Expr} {k : Int} {pb p1 p2 p3 p4 p5 p6 p7 p8 p9 p10 p11 p12 p13 : Pos}, Fx.Step B H B4 H4 → at_ ≤ k → k ≤ at_ + 1 →
            EN (cxOf CX0 P w K mg base N_l_bent "_law_bent" (defScope s_l_bent) T.a_l_bent cdv A outer s H E).nox lo [some v, some u, some x, some (.int at_), some (.int way)] B4 (Eq (.int k)) →
            EN (cxOf CX0 P w K mg base N_l_bent "_law_bent" (defScope s_l_bent) T.a_l_bent cdv A outer s H E).nox (.BinOp (.BinOp (.Subscript (.Name "_law_word" p1) (.Slice none (some (.Name "_law_at" p2)) none p3) p4) .Add (.List [.Call (.Name "_law_pick" p5) [.Name "_law_pot_here" p6, .Name "_law_labels_here" p7] [] p8] p9) p10) .Add (.Subscript (.Name "_law_word" p11) (.Slice (some lo) none none p12) pb) p13) [some v, some u, some x, some (.int at_), some (.int way)] B4 (Nms (ws.length + 1)) :=
          by
            intro B4 H4 lo k pb p1 p2 p3 p4 p5 p6 p7 p8 p9 p10 p11 p12 p13 st4 hk1 hk2 hlo
            refine EN.imp (EF.sh (ef_op (Pa := fun d => ∃ z, Nm z ∧ d = .lst (D.strs (ws.take at_.toNat ++ [z]))) (Pb := Eq (.lst (D.strs (ws.drop k.toNat)))) (PL := fun es => ∃ z, Nm z ∧ es = D.strs (ws.take at_.toNat ++ [z] ++ ws.drop k.toNat)) (EN.imp (EF.sh (ef_op (Pa := Eq (.lst (D.strs (ws.take at_.toNat)))) (Pb := fun d => ∃ z, Nm z ∧ d = .lst (D.strs [z])) (PL := fun es => ∃ z, Nm z ∧ es = D.strs (ws.take at_.toNat ++ [z]))
              (EF.shEq (EF.imp (ef_slL (en_var (i := 1) rfl (ru.mono st4.b)) eo_none (eo_some (en_var (i := 3) rfl (Rp.int.mpr rfl)))) fun d q => q ▸ (cut_to ws a0).symm)) (EN.imp (EF.sh (ef_lst (ea_consN (pick st4.b rfl rfl) ea_nil) ?_)) ?_) ?_)) ?_)
              (EF.shEq (EF.imp (ef_slL (en_var (i := 1) rfl (ru.mono st4.b)) (eo_some hlo) eo_none) fun d q => q ▸ (cut_from ws (by omega)).symm)) ?_)) ?_
            · rintro ds ⟨d, _, rfl, _, rfl⟩
              exact (by decide : 1 ≤ sizeLine)
            · rintro d ⟨ds, rfl, _, _, rfl, ⟨z, hz, rfl⟩, rfl⟩
              exact ⟨z, hls z hz, rfl⟩
            · rintro x y rfl ⟨z, hz, rfl⟩
              obtain ⟨r0, h0, k0⟩ := odf_cat (X := (cxOf CX0 P w K mg base N_l_bent "_law_bent" (defScope s_l_bent) T.a_l_bent cdv A outer s H E).nox) (xs := D.strs (ws.take at_.toNat)) (ys := D.strs [z]) (by simp only [D.strs, List.length_map, List.length_take, List.length_singleton]; exact big (by omega))
              exact ⟨r0, h0, fun v u B H Q e r1 r2 kk => k0 v u B H Q e r1 r2 fun p ds vs B' H' s' n1 n2 h2 q r => kk p ds vs B' H' s' n1 n2 h2 ⟨z, hz, q.symm.trans (strs_app _ _).symm⟩ r⟩
            · rintro d ⟨es, rfl, z, hz, rfl⟩
              exact ⟨z, hz, rfl⟩
            · rintro x y ⟨z, hz, rfl⟩ rfl
              obtain ⟨r0, h0, k0⟩ := odf_cat (X := (cxOf CX0 P w K mg base N_l_bent "_law_bent" (defScope s_l_bent) T.a_l_bent cdv A outer s H E).nox) (xs := D.strs (ws.take at_.toNat ++ [z])) (ys := D.strs (ws.drop k.toNat)) (by simp only [D.strs, List.length_map, List.length_append, List.length_take, List.length_drop, List.length_singleton]; exact big (by omega))
              exact ⟨r0, h0, fun v u B H Q e r1 r2 kk => k0 v u B H Q e r1 r2 fun p ds vs B' H' s' n1 n2 h2 q r => kk p ds vs B' H' s' n1 n2 h2 ⟨z, hz, q.symm.trans (strs_app _ _).symm⟩ r⟩
            · rintro d ⟨es, rfl, z, hz, rfl⟩
              refine ⟨_, rfl, fun y hy => ?_, by simp only [List.length_append, List.length_take, List.length_drop, List.length_singleton]; omega⟩
              rcases List.mem_append.mp hy with h | h
              · rcases List.mem_append.mp h with h | h
                · exact cut1 _ y h
                · cases List.mem_singleton.mp h; exact hz
              · exact cut2 _ y h
        have st3 := st2.trans s3
        refine rb_if0 (t := decide (way = 1)) (ed_tcmp (en_var (i := 4) rfl (Rp.int.mpr rfl)) en_int od_eqI) s3.bh (fun ht B4 H4 s4 => ?_) (fun _ B4 H4 s4 => ?_)
        · have st4 := st3.trans s4
          exact rb_ret (three st4 (Int.le_refl _) (by omega) (en_var (i := 3) rfl (Rp.int.mpr rfl))) s4.bh fun v d B5 H5 s5 q5 r5 => Ret.step st4 (Ret.of s5 ⟨ws, ls, rfl, q5⟩ r5)
        · have st4 := st3.trans s4
          exact rb_ret (three st4 (by omega) (Int.le_refl _) (ed_op (en_var (i := 3) rfl (Rp.int.mpr rfl)) en_int od_add)) s4.bh fun v d B5 H5 s5 q5 r5 => Ret.step st4 (Ret.of s5 ⟨ws, ls, rfl, q5⟩ r5)
end
end Fk
set_option Elab.async false
set_option linter.all false
set_option maxRecDepth 100000
set_option maxHeartbeats 4000000
namespace Fk
open PySem L2 Fx PySem.Spec PyProof.Rows
/-! ### how long a list's text is -/
theorem sum_le {b : Nat} : ∀ {l : List Str}, (∀ x ∈ l, x.length ≤ b) → (l.map (·.length)).sum ≤ b * l.length
  | [], _ => by simp
  | x :: l, h => by
    have h1 := h x List.mem_cons_self
    have h2 := sum_le (l := l) fun y hy => h y (List.mem_cons_of_mem _ hy)
    simp only [List.map_cons, List.sum_cons, List.length_cons, Nat.mul_add, Nat.mul_one]
    omega
theorem shownAll_map : ∀ ds : List PyData, PyData.shownAll ds = ds.map PyData.shown
  | [] => rfl
  | d :: ds => by rw [PyData.shownAll, shownAll_map ds]; rfl
theorem textFrom_le {b : Nat} : ∀ (ts : List Str) (k : Nat) (acc : Str), (∀ t ∈ ts, t.length ≤ b) → (textFrom k acc ts).length ≤ acc.length + (b + 2) * ts.length
  | [], _, acc, _ => by show acc.length ≤ _; omega
  | t :: ts, k, acc, h => by
    have ih := textFrom_le ts (k + 1) (acc ++ (if k > 0 then ", " else "" : String) ++ t) fun y hy => h y (List.mem_cons_of_mem _ hy)
    have h1 := h t List.mem_cons_self
    have e : (acc ++ (if k > 0 then ", " else "" : String) ++ t : Str).length ≤ acc.length + 2 + t.length := by
      have e2 : (", " : Str).length = 2 := by decide +kernel
      have e3 : ("" : Str).length = 0 := by decide +kernel
      rw [Str.length_append, Str.length_append]
      split
      · rw [e2]; omega
      · rw [e3]; omega
    rw [textFrom, List.length_cons, Nat.mul_add, Nat.mul_one]
    omega
theorem shown_list_len {b : Nat} {ds : List PyData} (h : ∀ d ∈ ds, d.shown.length ≤ b) : (PyData.list ds).shown.length ≤ (b + 2) * ds.length + 2 := by
  rw [PyData.shown, shownAll_map]
  unfold listText
  have h1 := textFrom_le (b := b) (ds.map PyData.shown) 0 "[" fun x hx => by
    obtain ⟨d, hd, rfl⟩ := List.mem_map.mp hx
    exact h d hd
  have e3 : ("[" : Str).length = 1 := by decide +kernel
  have e4 : ("]" : Str).length = 1 := by decide +kernel
  rw [List.length_map, e3] at h1
  rw [Str.length_append, e4]
  omega
theorem nm_shown {z : Str} (h : Nm z) : (PyData.str z).shown.length ≤ 82 := by
  rw [PyData.shown]
  have := StrLaws.reprText_len z fun c hc => by have := (h.2.2 c hc).2; omega
  have := h.2.1
  omega
theorem names_shown {ws : List Str} (h : ∀ z ∈ ws, Nm z) : (PyData.list (ws.map PyData.str)).shown.length ≤ 84 * ws.length + 2 := by
  have := shown_list_len (b := 82) (ds := ws.map PyData.str) fun d hd => by
    obtain ⟨z, hz, rfl⟩ := List.mem_map.mp hd
    exact nm_shown (h z hz)
  rwa [List.length_map] at this
theorem bools_shown (bs : List Bool) : (PyData.list (bs.map PyData.bool)).shown.length ≤ 7 * bs.length + 2 := by
  have := shown_list_len (b := 5) (ds := bs.map PyData.bool) fun d hd => by
    obtain ⟨z, hz, rfl⟩ := List.mem_map.mp hd
    rw [PyData.shown]
    cases z <;> decide +kernel
  rwa [List.length_map] at this
theorem showable_strs : ∀ ws : List Str, PyData.showableAll (ws.map PyData.str) = true
  | [] => by simp [PyData.showableAll]
  | w :: ws => by simp [PyData.showableAll, PyData.showable, showable_strs ws]
theorem showable_bls : ∀ ws : List Bool, PyData.showableAll (ws.map PyData.bool) = true
  | [] => by simp [PyData.showableAll]
  | w :: ws => by simp [PyData.showableAll, PyData.showable, showable_bls ws]
theorem depthAll_bls : ∀ ws : List Bool, PyData.depthAll (ws.map PyData.bool) ≤ 1
  | [] => by simp [PyData.depthAll]
  | w :: ws => by
    have h := depthAll_bls ws
    simp [PyData.depthAll, PyData.depth]
    omega
theorem pys_bls : ∀ ws : List Bool, D.pys (D.bls ws) = ws.map PyData.bool
  | [] => by simp only [D.bls, List.map_nil, D.pys]
  | w :: ws => by
    have ih := pys_bls ws
    simp only [D.bls, List.map_cons, D.pys, D.py] at ih ⊢
    rw [ih]
theorem plains_bls : ∀ ws : List Bool, D.plains (D.bls ws) = true
  | [] => by simp only [D.bls, List.map_nil, D.plains]
  | w :: ws => by
    have ih := plains_bls ws
    simp only [D.bls, List.map_cons, D.plains, D.plain] at ih ⊢
    rw [ih]; rfl
theorem py_strs (ws : List Str) : (D.lst (D.strs ws)).py = .list (ws.map PyData.str) := by simp only [D.py, pys_strs]
theorem py_bls (ws : List Bool) : (D.lst (D.bls ws)).py = .list (ws.map PyData.bool) := by simp only [D.py, pys_bls]
section
variable {X : Cx}
/-- repr of a list of names, of bools -/
def shN (ws : List Str) : Str := (PyData.list (ws.map PyData.str)).shown
theorem cd_reprN {ws : List Str} (hG : X.A.guards = some []) (hu : X.A.units + 66 < cLine) (h : ∀ z ∈ ws, Nm z) (hl : ws.length ≤ 400) : CD X (.builtin "repr") [.lst (D.strs ws)] (Eq (.str (shN ws))) := by
  have := cd_repr (X := X) (d := .lst (D.strs ws)) hG hu (by simp only [D.plain, plains_strs]) (by rw [py_strs, PyData.showable]; exact showable_strs ws) (by rw [py_strs, PyData.depth]; have := depthAll_strs ws; omega)
    (by rw [py_strs]; exact Nat.le_trans (names_shown h) (Nat.le_trans (by omega : 84 * ws.length + 2 ≤ 40000) (by decide)))
  rwa [py_strs] at this
def shB (bs : List Bool) : Str := (PyData.list (bs.map PyData.bool)).shown
theorem cd_reprB {bs : List Bool} (hG : X.A.guards = some []) (hu : X.A.units + 66 < cLine) (hl : bs.length ≤ 400) : CD X (.builtin "repr") [.lst (D.bls bs)] (Eq (.str (shB bs))) := by
  have := cd_repr (X := X) (d := .lst (D.bls bs)) hG hu (by simp only [D.plain, plains_bls]) (by rw [py_bls, PyData.showable]; exact showable_bls bs) (by rw [py_bls, PyData.depth]; have := depthAll_bls bs; omega)
    (by rw [py_bls]; exact Nat.le_trans (bools_shown bs) (Nat.le_trans (by omega : 7 * bs.length + 2 ≤ 40000) (by decide)))
  rwa [py_bls] at this
/-! ### a Row -/
def rowF (ws : List Str) : List (Str × D) := [("own_names", .tup (D.strs ws))]
abbrev rowD (C : Addr) (ws : List Str) : D := .obj C (rowF ws)
theorem row_look (ws : List Str) : (rowF ws).lookup ("own_names" : Str) = some (.tup (D.strs ws)) := by
  unfold rowF
  rw [List.lookup_cons_self]
theorem row_none {n : Str} (ws : List Str) (h : (n == ("own_names" : Str)) = false) : (rowF ws).lookup n = none := by
  unfold rowF
  rw [List.lookup_cons, h]; rfl
/-- (len, names) < (len, names) -/
theorem od_row {a b : List Str} (hu : X.A.units + 64 < cLine) : OD X (compareOp .Lt) (.tup [.int (a.length : Nat), .tup (D.strs a)]) (.tup [.int (b.length : Nat), .tup (D.strs b)]) (Eq (.bl (aheadB a b))) := by
  have e1 : ∀ a : List Str, (D.tup [.int (a.length : Nat), .tup (D.strs a)]).py = PySem.W.Datum.toD (((a.length : Nat) : Int), (PySem.W.Tup.mk a)) := fun a => by
    simp only [D.py, D.pys, pys_strs]; rfl
  have p1 : ∀ a : List Str, (D.tup [.int (a.length : Nat), .tup (D.strs a)]).plain = true := fun a => by
    simp only [D.plain, D.plains, plains_strs, Bool.and_self]
  have h := od_ltD (X := X) (p1 a) (p1 b) (by rw [e1, e1]; exact PySem.W.DatumOrd.alike _ _) (by rw [e1]; exact PySem.W.DatumOrd.notNone _)
    (by
      rw [e1, e1]
      have d1 := PySem.W.Datum.depth_le (((a.length : Nat) : Int), (PySem.W.Tup.mk a))
      have d2 : PySem.W.Datum.depth (Int × PySem.W.Tup Str) ≤ 64 := by decide
      omega)
  rw [e1, e1, PySem.W.DatumOrd.lt_eq] at h
  have e2 : PySem.W.DatumOrd.lt (((a.length : Nat) : Int), (PySem.W.Tup.mk a)) (((b.length : Nat) : Int), (PySem.W.Tup.mk b)) = aheadB a b := by
    show (if ((a.length : Nat) : Int) = ((b.length : Nat) : Int) then PySem.W.listLt a b else decide (((a.length : Nat) : Int) < ((b.length : Nat) : Int))) = _
    unfold aheadB
    by_cases e : a.length = b.length
    · rw [if_pos e, if_pos (by omega)]
    · rw [if_neg e, if_neg (by omega)]
      exact decide_eq_decide.mpr (by omega)
  rwa [e2] at h
end
end Fk
set_option Elab.async false
set_option linter.all false
set_option maxRecDepth 100000
set_option maxHeartbeats 4000000
namespace Fk
open PySem L2 Fx
section
variable {P : Program} {w : World} {K : PySem.W.Frag} {mg : Str → Option Value} {base : Heap}
def preR (ds : List D) : Prop := ∃ ws : List Str, ds = [.lst (D.strs ws)] ∧ (∀ z ∈ ws, Nm z) ∧ ws.length ≤ 400
def fsR (ds : List D) : List (Str × D) := match ds with | [.lst xs] => [("own_names", .tup xs)] | _ => []
theorem ok_init (T : Tx K mg) : FnOk P w K mg base CX0 2 T.a_Row_init T.d_Row_init ["self", "names"] (spMake K T.C_Row preR fsR) :=
  T.f_Row_init.okB sc_Row_init (fun vs H Q E ⟨x, dx, us, ds, B, q, _, _, _, r, ⟨ws, e, _⟩, _⟩ => by
    subst q; subst e
    rw [List.length_cons, ← r.length]; rfl) fun cdv A outer s H vs Q E hr ⟨x, dx, us, ds, B, q, hX, hx, hB, r, ⟨ws, e, hws, hl⟩, kk⟩ => by
    subst q; subst e
    obtain ⟨nv, rfl, rn⟩ := rpl1 r
    have llen : (D.strs ws).length = ws.length := List.length_map _
    have hr1 : Room 1 _ := hr
    refine rb_ifF (ET.eq (ed_not (et_valE (EN.imp (ed_callO (ok_is_list T) hr1 T.m_is_list T.f_is_list.kp T.b_is_list (ea_cons (en_var (i := 1) rfl rn) ea_nil) ⟨_, rfl⟩) fun d q => q.symm))) rfl) hx fun B1 H1 s1 => ?_
    refine rb_for (g := gTup K 2 (gCons (gName 2) (gCons (gName 3) gNil))) (set := set2 2 3) (parts := pair?) PassesOwn.never rfl (wi_enum (en_var (i := 1) rfl (rn.mono s1.b)) T.z_enumerate) (pg_tup rfl (pgs_cons (pg_name sc_Row_init.nd rfl (Or.inl rfl)) (pgs_cons (pg_name sc_Row_init.nd rfl (Or.inl rfl)) pgs_nil))) (gt_pair 2 3) s1.bh fun ds B2 H2 s2 hds => ?_
    subst hds
    have st2 := s1.trans s2
    refine ⟨fun i σ1 B3 H3 => ∃ a2 a3 : Option V, B3 = B2 ∧ Ex B2 H3 ∧ Ex H H3 ∧ σ1 = [some (.ref x), some nv, a2, a3], ⟨none, none, rfl, s2.bh, st2.h, rfl⟩, (fun i σ1 B3 H3 ⟨_, _, e, x, _⟩ => by subst e; exact ⟨Ex.refl _, x⟩), ?_, ?_⟩
    · rintro i d σ1 B3 H3 hd ⟨a2, a3, rfl, x1, x2, rfl⟩
      have hi : i < (enumD (D.strs ws)).length := (List.getElem?_eq_some_iff.mp hd).1
      rw [enumD_length, llen] at hi
      have ez : ws[i]? = some ws[i] := List.getElem?_eq_getElem hi
      have hz := hws ws[i] (List.getElem_mem hi)
      generalize ws[i] = z at ez hz
      rw [enumD_at (d := .str z) (by unfold D.strs; rw [List.getElem?_map, ez]; rfl)] at hd
      cases hd
      refine ⟨[.int (i : Nat), .str z], rfl, fun B4 H4 us s4 rus => ?_⟩
      obtain ⟨v1, v2, rfl, r1, r2⟩ := rpl2 rus
      cases Rp.int.mp r1
      cases Rp.str.mp r2
      exact rb_ifF (ET.eq (ed_not (et_valE (EN.imp (ed_callO (ok_is_name T) hr1 T.m_is_name T.f_is_name.kp T.b_is_name (ea_cons (en_var (i := 3) rfl (Rp.str.mpr rfl)) ea_nil) ⟨z, hz, rfl⟩) fun d q => q.symm))) rfl) (s4.b.trans s4.bh) fun B5 H5 s5 => rb_nil ⟨B3, _, _, rfl, s5.b.trans s5.bh, (x2.trans s4.h).trans s5.h, rfl⟩
    · rintro σ1 B3 H3 ⟨a2, a3, rfl, x1, x2, rfl⟩
      refine rb_drop (P := fun d => d = .non) (EN.imp (ed_callO (ok_few T) hr1 T.m_want_few_runs T.f_want_few_runs.kp T.b_want_few_runs (ea_cons (en_callB T.z_len bt_len (ea_cons (en_var (i := 1) rfl (rn.mono st2.b)) ea_nil) fun ds q => q ▸ cd_lenL) ea_nil) ⟨_, by rw [llen]; omega, rfl⟩) fun d q => q) x1 fun v d B4 H4 s4 q4 r4 => ?_
      have stB : Fx.Step B H B4 H4 := (Fx.Step.grow st2 x1 x2).trans s4
      refine rb_fld (i := 0) (B := B4) (y := x) (C := T.C_Row) (dx := dx) (gs := []) (P := Eq (.tup (D.strs ws))) rfl (stB.keep hB hX).1 (stB.h _ _ hX) T.own_Row.cl T.n_Row_own_names (by decide) (en_callTy T.z_tuple bt_tuple (ea_cons (en_var (i := 1) rfl (rn.mono stB.b)) ea_nil) fun ds q => q ▸ cd_tupL) stB.bh fun v5 d5 B5 H5 s5 b5 q5 r5 => rb_nil ?_
      subst q5
      have st5 := stB.trans s5
      refine kk _ B5 _ st5.b (st5.bh.put b5) (fun a o na ha => by rw [upd_ne na]; exact st5.h a o ha) st5.nw upd_same ?_
      show RpF K B5 [("own_names", .tup (D.strs ws))] [("own_names", v5)]
      simp only [RpF]
      exact ⟨v5, [], rfl, r5, rfl⟩
/-- the attribute -/
theorem en_own {X : Cx} {C : Addr} {o : Expr} {pos : Pos} {σ : L2.St} {B : Hp} {ws : List Str} (c : Cls X.K C) (hn : NoAttr X.K C "own_names") (ho : EN X o σ B (Eq (rowD C ws))) (hb : attributeBase o "own_names" X.env (eval o X.env) = eval o X.env := by rfl) : EN X (.Attribute o "own_names" pos) σ B (Eq (.tup (D.strs ws))) :=
  en_fld c hn ho (row_look ws) hb
theorem ok_is_ahead (T : Tx K mg) : FnOk P w K mg base CX0 1 T.a_Row_is_ahead T.d_Row_is_ahead ["self", "other"] (spD K (fun ds => ∃ a b : List Str, ds = [rowD T.C_Row a, rowD T.C_Row b]) (fun ds d => ∃ a b : List Str, ds = [rowD T.C_Row a, rowD T.C_Row b] ∧ d = .bl (aheadB a b))) :=
  Fx.Fun.okD T.f_Row_is_ahead sc_Row_is_ahead (fun ds ⟨_, _, q⟩ => by rw [q]; rfl) fun cdv A outer s E ds vs B H hr hx r hp => by
    obtain ⟨a, b, rfl⟩ := hp
    obtain ⟨v, u, rfl, rv, ru⟩ := rpl2 r
    have hu : A.units + 3 + 64 < cLine := by have := hr.un; show _ < _; have e : (A.deeper (PyProof.Rows.envOfC "Row.is_ahead" (defScope s_Row_is_ahead) s.heap.objs.size T.a_Row_is_ahead cdv)).units = A.units + 3 := rfl; omega
    have la : (D.strs a).length = a.length := List.length_map _
    have lb : (D.strs b).length = b.length := List.length_map _
    refine rb_ret (ed_cmp (en_tup (ea_cons (EN.eq (en_callB T.z_len bt_len (ea_cons (en_own T.own_Row.cl T.n_Row_own_names (en_var (i := 0) rfl rv)) ea_nil) fun ds q => q ▸ cd_lenT) (by rw [la])) (ea_cons (en_own T.own_Row.cl T.n_Row_own_names (en_var (i := 0) rfl rv)) ea_nil)) (by exact (by decide : 2 ≤ sizeLine)))
      (en_tup (ea_cons (EN.eq (en_callB T.z_len bt_len (ea_cons (en_own T.own_Row.cl T.n_Row_own_names (en_var (i := 1) rfl ru)) ea_nil) fun ds q => q ▸ cd_lenT) (by rw [lb])) (ea_cons (en_own T.own_Row.cl T.n_Row_own_names (en_var (i := 1) rfl ru)) ea_nil)) (by exact (by decide : 2 ≤ sizeLine))) (od_row hu)) hx fun v d B' H' s q r => Ret.of s ⟨a, b, rfl, q.symm⟩ r
theorem ok_eq (T : Tx K mg) : FnOk P w K mg base CX0 1 T.a_Row_eq T.d_Row_eq ["self", "other"] (spD K (fun ds => ∃ a b : List Str, ds = [rowD T.C_Row a, rowD T.C_Row b] ∧ (∀ z ∈ a, Nm z) ∧ (∀ z ∈ b, Nm z)) (fun ds d => ∃ a b : List Str, ds = [rowD T.C_Row a, rowD T.C_Row b] ∧ d = .bl (decide (a = b)))) :=
  Fx.Fun.okD T.f_Row_eq sc_Row_eq (fun ds ⟨_, _, q, _⟩ => by rw [q]; rfl) fun cdv A outer s E ds vs B H hr hx r hp => by
    obtain ⟨a, b, rfl, ha, hb⟩ := hp
    obtain ⟨v, u, rfl, rv, ru⟩ := rpl2 r
    have hu : A.units + 3 + 64 < cLine := by have := hr.un; show _ < _; have e : (A.deeper (PyProof.Rows.envOfC "Row.__eq__" (defScope s_Row_eq) s.heap.objs.size T.a_Row_eq cdv)).units = A.units + 3 := rfl; omega
    refine rb_ret (EN.eq (en_andV (t := true) (u := decide (a = b)) (en_callB T.z_isinstance bt_isinstance (ea_cons (en_var (i := 1) rfl ru) (ea_cons (en_cls T.m_Row) ea_nil)) fun ds q => q ▸ cd_isiO1 T.own_Row) fun _ => ed_cmp (en_own T.own_Row.cl T.n_Row_own_names (en_var (i := 0) rfl rv)) (en_own T.own_Row.cl T.n_Row_own_names (en_var (i := 1) rfl ru)) (od_eqTs hu (fun z hz => nm_ok (ha z hz)) (fun z hz => nm_ok (hb z hz)))) rfl) hx fun v d B' H' s q r => Ret.of s ⟨a, b, rfl, q.symm⟩ r
def rowText (ws : List Str) : Str := Str.empty ++ "Row(" ++ shN ws ++ ")"
theorem ok_repr (T : Tx K mg) : FnG P w K mg base CX0 1 T.a_Row_repr T.d_Row_repr ["self"] (spD K (fun ds => ∃ a : List Str, ds = [rowD T.C_Row a] ∧ (∀ z ∈ a, Nm z) ∧ a.length ≤ 400) (fun ds d => ∃ a : List Str, ds = [rowD T.C_Row a] ∧ d = .str (rowText a))) :=
  Fx.Fun.okGD T.f_Row_repr sc_Row_repr (fun ds ⟨_, q, _⟩ => by rw [q]; rfl) fun cdv A outer s E ds vs B H hr hG hx r hp => by
    obtain ⟨a, rfl, ha, hl⟩ := hp
    obtain ⟨v, rfl, rv⟩ := rpl1 r
    have hu : A.units + 3 + 66 < cLine := by have := hr.un; show _ < _; have e : (A.deeper (PyProof.Rows.envOfC "Row.__repr__" (defScope s_Row_repr) s.heap.objs.size T.a_Row_repr cdv)).units = A.units + 3 := rfl; omega
    have hsh := names_shown ha
    have e1 : (D.lst (D.strs a)).py.shown = shN a := by rw [py_strs]; rfl
    have hz : (shN a).length ≤ 40000 := Nat.le_trans hsh (by omega)
    refine rb_ret (P := Eq (.str (rowText a))) (en_js3 en_str (EN.eq (en_fmtR (EF.shEq (ef_callTy T.z_list bt_list (ea_cons (en_own T.own_Row.cl T.n_Row_own_names (en_var (i := 0) rfl rv)) ea_nil) fun ds q => q ▸ cdf_listT)) (.inl ⟨_, rfl⟩) hG hu (by simp only [D.plain, plains_strs]) (by rw [py_strs, PyData.showable]; exact showable_strs a) (by rw [py_strs, PyData.depth]; have := depthAll_strs a; omega) (by rw [e1]; exact Nat.le_trans hz (by decide))) (by rw [e1])) en_str ?_) hx fun v d B' H' s q r => Ret.of s ⟨a, rfl, q.symm⟩ r
    have e4 : ("Row(" : Str).length = 4 := by decide +kernel
    have e5 : (")" : Str).length = 1 := by decide +kernel
    rw [e4, e5]
    exact Nat.le_trans (by omega : 4 + (shN a).length + 1 ≤ 50000) (by decide)
end
end Fk
set_option Elab.async false
set_option linter.all false
set_option maxRecDepth 100000
set_option maxHeartbeats 4000000
namespace Fk
open PySem L2 Fx
abbrev wordD (ws : List Str) : D := .lst (D.strs ws)
abbrev Wd (wss : List (List Str)) : List D := wss.map wordD
abbrev Rd (C : Addr) (wss : List (List Str)) : List D := wss.map (rowD C)
abbrev OkW (wss : List (List Str)) : Prop := ∀ ws ∈ wss, (∀ z ∈ ws, Nm z) ∧ ws.length ≤ 11
abbrev toRow (C : Addr) (d : D) : D := match d with | .lst xs => .obj C [("own_names", .tup xs)] | _ => .non
section
variable {P : Program} {w : World} {K : PySem.W.Frag} {mg : Str → Option Value} {base : Heap}
theorem own_look (ws : List Str) {n : Str} (h : (n == ("own_names" : Str)) = false := by decide) : (rowF ws).lookup n = none := row_none ws h
/-- a Row of a list of names -/
theorem en_row {X : Cx} {C f : Addr} {fd : FuncData} {e : Expr} {p pos : Pos} {σ : L2.St} {B : Hp} {ws : List Str} (M : Mk X.K C f) (F : FnOk X.prog X.w X.K X.mg X.base CX0 2 f fd ["self", "names"] (spMake X.K C preR fsR)) (hr : Room 3 X.A) (hm : X.mg "Row" = some (.ref C)) (hb : Binds X.K fd ["self", "names"] [])
    (he : EN X e σ B (Eq (wordD ws))) (h : (∀ z ∈ ws, Nm z) ∧ ws.length ≤ 11) (hg : Gl X "Row" := by rfl) (hst : starEach [e] X.env = (false, eval e X.env) :: starEach [] X.env := by rfl) (hpl : (backTo pos (starEach [] X.env)).any (·.1) = false := by rfl) :
    EN X (.Call (.Name "Row" p) [e] [] pos) σ B (Eq (rowD C ws)) :=
  EN.imp (en_make (pos := pos) M F hr hm hb (ea_cons he ea_nil hst) (fun ds q => q ▸ ⟨ws, rfl, h.1, by omega⟩) hg (by decide) hst hpl) fun d ⟨ds, q, e⟩ => by
    subst q; subst e; rfl
/-- one row ahead of another one -/
theorem en_ahead {X : Cx} {C f : Addr} {fd : FuncData} {o e : Expr} {apos pos : Pos} {σ : L2.St} {B : Hp} {a b : List Str} {pl : Sem Bool} (c : Cls X.K C) (hm : Meth X.K C "is_ahead" f) (F : FnOk X.prog X.w X.K X.mg X.base CX0 1 f fd ["self", "other"] (spD X.K (fun ds => ∃ a b : List Str, ds = [rowD C a, rowD C b]) (fun ds d => ∃ a b : List Str, ds = [rowD C a, rowD C b] ∧ d = .bl (aheadB a b)))) (hr : Room 1 X.A) (hb : Binds X.K fd ["self", "other"] [])
    (ho : EN X o σ B (Eq (rowD C a))) (he : EN X e σ B (Eq (rowD C b))) (hst : starEach [e] X.env = (false, eval e X.env) :: starEach [] X.env := by rfl) (hpl : (backTo pos (starEach [] X.env)).any (·.1) = false := by rfl)
    (ht : eval (.Call (.Attribute o "is_ahead" apos) [e] [] pos) X.env = (do
      let ov ← eval o X.env
      standAt apos.atName
      let (f, first) ← holding [ov] (getMethod ov "is_ahead" pl)
      callWith pos f first (backTo pos (starEach [e] X.env)) (backToKw pos (keywordEach [] X.env))) := by rfl) : EN X (.Call (.Attribute o "is_ahead" apos) [e] [] pos) σ B (Eq (.bl (aheadB a b))) :=
  EN.imp (en_meth (pl := pl) c hm F hr hb ho (own_look a) (ea_cons he ea_nil hst) ⟨a, b, rfl⟩ hst hpl ht) fun d ⟨a', b', q, e⟩ => by
    have strs_inj : ∀ {a b : List Str}, rowD C a = rowD C b → a = b := fun {a b} h => by
      injection h with _ h
      unfold rowF at h
      injection h with h _
      injection h with _ h
      injection h with h
      exact (List.map_inj_right (f := D.str) (fun x y h => by injection h)).mp h
    injection q with q1 q
    injection q with q2 _
    rw [strs_inj q1, strs_inj q2]; exact e.symm
theorem wd_at {wss : List (List Str)} {i : Nat} {d : D} (h : (Wd wss)[i]? = some d) : ∃ ws, wss[i]? = some ws ∧ d = wordD ws := by
  rw [List.getElem?_map] at h
  obtain ⟨ws, h1, h2⟩ := Option.map_eq_some_iff.mp h
  exact ⟨ws, h1, h2.symm⟩
theorem wd_app (a b : List (List Str)) : Wd (a ++ b) = Wd a ++ Wd b := List.map_append
theorem zip_at {C : Addr} {wss : List (List Str)} {i : Nat} {d : D} (h : (zipD (Rd C wss) (Wd wss))[i]? = some d) : ∃ ws, wss[i]? = some ws ∧ d = .tup [rowD C ws, wordD ws] := by
  unfold zipD at h
  rw [List.getElem?_map] at h
  obtain ⟨q, h1, h2⟩ := Option.map_eq_some_iff.mp h
  obtain ⟨h3, h4⟩ := List.getElem?_zip_eq_some.mp h1
  rw [List.getElem?_map] at h3 h4
  obtain ⟨ws, h5, h6⟩ := Option.map_eq_some_iff.mp h3
  obtain ⟨us, h7, h8⟩ := Option.map_eq_some_iff.mp h4
  rw [h5] at h7
  cases h7
  exact ⟨ws, h5, by rw [← h2, ← h6, ← h8]⟩
/-- the first part: the words -/
theorem right_words (T : Tx K mg) {cdv : Value} {A : Around} {outer : List Env} {s : Shared} {E : XK} {B H : Hp} {v : V} (hr : Room 3 (A.deeper (PyProof.Rows.envOfC "_law_right" (defScope s_l_right) s.heap.objs.size T.a_l_right cdv))) (hx : Ex B H) (rv : Rp K B .pot v)
    (k : ∀ (wss : List (List Str)) (l p : V) (t : Option V) (B1 H1 : Hp), Fx.Step B H B1 H1 → OkW wss → wss.length = 16 → Rp K B1 (.lst (Wd wss)) p → RB (cxOf CX0 P w K mg base N_l_right "_law_right" (defScope s_l_right) T.a_l_right cdv A outer s H E).nox ((defBody s_l_right).drop 2) [some v, some l, some p, t, none, none, none, none, none, none, none, none, none, none] H1 { nx := fun _ H' => Ret K B H (fun d => d = .bl true) .non H', rt := Ret K B H (fun d => d = .bl true) }) :
    RB (cxOf CX0 P w K mg base N_l_right "_law_right" (defScope s_l_right) T.a_l_right cdv A outer s H E).nox (defBody s_l_right) (start N_l_right [v]) H { nx := fun _ H' => Ret K B H (fun d => d = .bl true) .non H', rt := Ret K B H (fun d => d = .bl true) } := by
  have hr1 : Room 1 _ := hr.mono (by decide)
  have hr2 : Room 2 _ := hr.mono (by decide)
  refine rb_asg2L (i := 1) (j := 2) (Pa := fun d => ∃ ls : List Str, d = wordD ls ∧ (∀ z ∈ ls, Nm z) ∧ ls ≠ [] ∧ ls.length ≤ 8) (PL := Eq []) rfl sc_l_right.nd (EN.imp (ed_callO (ok_near T) hr T.m_l_near_labels T.f_l_near_labels.kp T.b_l_near_labels (ea_cons (en_var (i := 0) rfl rv) ea_nil) rfl) fun d q => q) (ef_lst ea_nil (fun ds q => by subst q; exact Nat.zero_le _)) hx fun p ds vs l d B1 H1 s1 n0 n1 h1 pl r1 pd rd => ?_
  subst pl
  simp only [RpL] at r1
  subst r1
  obtain ⟨ls, rfl, hls, hne, hll⟩ := pd
  refine rb_for (g := gName 3) (set := set1 3) (parts := fun d => some [d]) PassesOwn.never rfl (wi_rangeE en_int ⟨by decide, by decide⟩ T.z_range) (pg_name sc_l_right.nd rfl (Or.inl rfl)) (gt_name 3) s1.bh fun ds B2 H2 s2 hds => ?_
  subst hds
  have st2 := s1.trans s2
  have kp := s2.keep n1 h1
  refine ⟨fun i σ1 B3 H3 => ∃ (wss : List (List Str)) (vs : List V) (t : Option V), Fx.Step B H B3 H3 ∧ Ex B2 B3 ∧ B3 p = none ∧ H3 p = some (.lst vs) ∧ RpL K B3 (Wd wss) vs ∧ OkW wss ∧ wss.length = 2 * i ∧ σ1 = [some v, some l, some (.ref p), t, none, none, none, none, none, none, none, none, none, none],
    ⟨[], [], none, st2, Ex.refl _, kp.1, kp.2, RpL.nil, (fun _ h => nomatch h), rfl, rfl⟩, (fun i σ1 B3 H3 ⟨_, _, _, st, x, _⟩ => ⟨x, st.bh⟩), ?_, ?_⟩
  · rintro i d σ1 B3 H3 hd ⟨wss, vs, t, st3, x3, b3, h3, r3, ok3, l3, rfl⟩
    have hi : i < 8 := by
      have := (List.getElem?_eq_some_iff.mp hd).1
      rw [upTo_length] at this
      exact this
    refine ⟨[d], rfl, fun B4 H4 us s4 rus => ?_⟩
    obtain ⟨kv, rfl, rk⟩ := rpl1 rus
    have st4 := st3.trans s4
    have k4 := s4.keep b3 h3
    have r4 := r3.mono s4.b
    have rl4 := rd.mono (s2.b.trans (x3.trans s4.b))
    have vlen : vs.length = wss.length := by rw [← r3.length, List.length_map]
    have big : ∀ {n : Nat}, n ≤ 200 → n < sizeLine := fun h => Nat.lt_of_le_of_lt h (by decide)
    -- words.append([...])
    refine rb_appendX (i := 2) (q := p) (vs := vs) (P := fun d => ∃ ws : List Str, d = wordD ws ∧ (∀ z ∈ ws, Nm z) ∧ ws.length ≤ 10) rfl k4.2 (big (by omega)) (EN.imp (EF.sh (LC.ef (lN (Pds := fun ds => ∃ n : Int, (0 ≤ n ∧ n < 11) ∧ ds = Fx.upTo n.toNat) (Pe := fun _ _ e => ∃ z, e = .str z ∧ Nm z) (j := 13) (wi_range (Pn := fun n => 0 ≤ n ∧ n < 11) (en_draw (ok_draw T) hr1 T.m_l_draw T.f_l_draw.kp T.b_l_draw (en_var (i := 0) rfl (rv.mono st4.b)) en_int (by decide) (by decide)) (fun n hn => ⟨by omega, by omega⟩) T.z_range)
        (blkOk_by (N := N_l_right) (sc := defScope s_l_right) (own := [("_law_k", 13)]) (by decide +kernel)) (fun _ _ _ _ _ => pg_name sc_l_right.nd rfl (Or.inl rfl)) (fun _ => rfl) ?_ ?_) sc_l_right.nd)) ?_) st4.bh fun v5 d5 B5 H5 s5 q5 r5 => ?_
    · rintro ds ⟨n, hn, rfl⟩
      rw [upTo_length]
      exact Nat.le_trans (by omega : n.toNat ≤ 11) (by decide)
    · intro ds _ j d _ B6 v6 x6 r6 s0 H0 C cl fp
      exact EN.imp (en_pick (ok_pick T) hr2 T.m_l_pick T.f_l_pick.kp T.b_l_pick (en_var (i := 0) rfl ((rv.mono st4.b).mono x6)) (en_var (i := 1) rfl (rl4.mono x6)) hne (by omega)) fun d ⟨z, hz, e⟩ => ⟨z, e, hls z hz⟩
    · rintro d ⟨es, rfl, ds, ⟨n, hn, rfl⟩, hlen, hall⟩
      rw [upTo_length] at hlen
      obtain ⟨ws, rfl, hws⟩ := choose_map (g := D.str) (Q := Nm) (es := es) (all_of (by rw [upTo_length]; exact hlen) hall)
      rw [List.length_map] at hlen
      exact ⟨ws, rfl, hws, by omega⟩
    obtain ⟨ws, rfl, hws, hwl⟩ := q5
    have st5 := st4.trans s5
    have k5 := s5.keep k4.1 k4.2
    -- words.append(bent(..))
    have rN : RpL K B5 (Wd (wss ++ [ws])) (vs ++ [v5]) := by
      rw [wd_app]
      exact (r4.mono s5.b).append (RpL.cons r5 RpL.nil)
    have xb : Ex (upd B5 p (.lst (vs ++ [v5]))) (upd H5 p (.lst (vs ++ [v5]))) := fun a o ha => by
      by_cases z : a = p
      · subst z; rw [upd_same] at ha ⊢; exact ha
      · rw [upd_ne z] at ha ⊢; exact st5.bh a o ha
    have new5 : Ex B5 (upd B5 p (.lst (vs ++ [v5]))) := Ex.new k5.1
    have last : L2.atI (Wd (wss ++ [ws])) (-1) = some (wordD ws) := by
      unfold L2.atI ixN
      rw [if_neg (by decide), if_pos (by rw [List.length_map, List.length_append, List.length_singleton]; omega)]
      show (Wd (wss ++ [ws]))[((-1 : Int) + ((Wd (wss ++ [ws])).length : Nat)).toNat]? = _
      rw [List.length_map, List.length_append, List.length_singleton, show ((-1 : Int) + ((wss.length + 1 : Nat) : Int)).toNat = wss.length from by omega, List.getElem?_map, List.getElem?_append_right (Nat.le_refl _), Nat.sub_self]
      rfl
    refine rb_appendX (i := 2) (q := p) (vs := vs ++ [v5]) (P := Nms (ws.length + 1)) rfl upd_same (big (by rw [List.length_append, List.length_singleton]; omega)) (EN.imp (ed_callO (ok_bent T) hr T.m_l_bent T.f_l_bent.kp T.b_l_bent (ea_cons (en_var (i := 0) rfl ((rv.mono st5.b).mono new5)) (ea_cons (ed_ix (en_var (i := 2) rfl (Rp.lst.mpr ⟨p, _, rfl, upd_same, rN.mono new5⟩)) (en_neg en_int) (ix_lst last)) (ea_cons (en_var (i := 1) rfl ((rl4.mono s5.b).mono new5)) ea_nil))) ⟨ws, ls, rfl, hws, hls, hne, by omega, by omega⟩) ?_) xb fun v6 d6 B6 H6 s6 q6 r6 => rb_nil ?_
    · rintro d ⟨ws', ls', q, hq⟩
      injection q with _ q
      injection q with q _
      injection q with q
      have := (List.map_inj_right (f := D.str) (fun x y h => by injection h)).mp q
      rw [this]; exact hq
    · obtain ⟨us, rfl, hus, hul⟩ := q6
      have h6 : B6 p = some (.lst (vs ++ [v5])) := s6.b _ _ upd_same
      have so := s6.off k5.1
      have ro : Rp K (off B6 p) (wordD us) v6 := r6.off h6 fun e => by
        obtain ⟨a, xs, rfl, _, _⟩ := Rp.lst.mp r5
        have : V.ref a ∈ us.map V.str := e ▸ List.mem_append_right _ List.mem_cons_self
        obtain ⟨_, _, h⟩ := List.mem_map.mp this
        cases h
      refine ⟨off B6 p, wss ++ [ws] ++ [us], vs ++ [v5] ++ [v6], some kv, ?_, ?_, off_self, upd_same, ?_, ?_, by simp only [List.length_append, List.length_singleton]; omega, rfl⟩
      · -- the step from the entry
        refine ⟨st5.b.trans so.b, so.bh.put off_self, fun a o ha => ?_, fun a h1 h2 => ?_⟩
        · have n : a ≠ p := ne_of_none ha n0
          rw [upd_ne n]
          exact so.h a o (by rw [upd_ne n]; exact st5.h a o ha)
        · have n : a ≠ p := fun z => h2 (z ▸ n0)
          exact so.nw a (st5.nw a h1 h2) (by rw [upd_ne n]; exact fun z => h2 (st5.h.back z))
      · exact x3.trans (s4.b.trans (s5.b.trans so.b))
      · rw [wd_app]
        exact (rN.mono so.b).append (RpL.cons ro RpL.nil)
      · intro y hy
        rcases List.mem_append.mp hy with hy | hy
        · rcases List.mem_append.mp hy with hy | hy
          · exact ok3 y hy
          · cases List.mem_singleton.mp hy; exact ⟨hws, by omega⟩
        · cases List.mem_singleton.mp hy; exact ⟨hus, by omega⟩
  · rintro σ1 B3 H3 ⟨wss, vs, t, st3, x3, b3, h3, r3, ok3, l3, rfl⟩
    rw [upTo_length] at l3
    have hp0 : H p = none := n0
    exact k wss l (.ref p) t (upd B3 p (.lst vs)) H3 (st3.share hp0 b3 h3) ok3 (by omega) (Rp.lst.mpr ⟨p, vs, rfl, upd_same, r3.mono (Ex.new b3)⟩)
end
end Fk
set_option Elab.async false
set_option linter.all false
set_option maxRecDepth 100000
set_option maxHeartbeats 4000000
namespace Fk
open PySem L2 Fx
theorem other_own {X : Cx} {C : Addr} {fs : List (Str × D)} : Other X C (.obj C fs) := fun I hx r ru => by
  obtain ⟨a, dx, gs, rfl, h1, _⟩ := Rp.obj.mp r
  cases ru
  obtain ⟨ox, od, J⟩ := ins_at I (hx _ _ h1)
  exact ⟨.ref C, J.type, by unfold PySem.W.notFirst; simp⟩
def unS : D → Str
  | .str s => s | _ => ""
def unR : D → List Str
  | .obj _ [(_, .tup xs)] => xs.map unS
  | .lst xs => xs.map unS
  | _ => []
theorem unS_map (ws : List Str) : (D.strs ws).map unS = ws := by
  unfold D.strs
  rw [List.map_map]
  exact List.map_id' ws
theorem unR_row {C : Addr} (ws : List Str) : unR (rowD C ws) = ws := unS_map ws
theorem unR_word (ws : List Str) : unR (wordD ws) = ws := unS_map ws
theorem empty_app (d : Str) : Str.empty ++ d = d := by
  have e : (Str.empty ++ d).cps = d.cps := by
    rw [Str.cps_append]
    simp [Str.empty]
  cases d
  exact congrArg Str.mk e
theorem cd_rowRepr {X : Cx} {C f : Addr} {fd : FuncData} {ws : List Str} (S : Spc X.K C "__repr__" f) (F : FnG X.prog X.w X.K X.mg X.base CX0 1 f fd ["self"] (spD X.K (fun ds => ∃ a : List Str, ds = [rowD C a] ∧ (∀ z ∈ a, Nm z) ∧ a.length ≤ 400) (fun ds d => ∃ a : List Str, ds = [rowD C a] ∧ d = .str (rowText a)))) (hr : Room 2 X.A) (hG : X.A.guards = some []) (hb : Binds X.K fd ["self"] []) (h : (∀ z ∈ ws, Nm z) ∧ ws.length ≤ 11) : CD X (.builtin "repr") [rowD C ws] (Eq (.str (rowText ws))) :=
  cd_reprO (t := fun _ => rowText ws) S F hr hG hb ⟨ws, rfl, h.1, by omega⟩ fun d ⟨a, q, e⟩ => by
    injection q with q1 _
    have e1 : unR (rowD C ws) = unR (rowD C a) := congrArg unR q1
    rw [unR_row, unR_row] at e1
    rw [e, e1]
theorem rd_mem {C : Addr} {wss : List (List Str)} {d : D} (h : d ∈ Rd C wss) : ∃ ws ∈ wss, d = rowD C ws := by
  obtain ⟨ws, h1, h2⟩ := List.mem_map.mp h
  exact ⟨ws, h1, h2.symm⟩
theorem bls_map (l : List (List Str)) (f : List Str → Bool) : D.bls (l.map f) = l.map fun u => D.bl (f u) := by
  unfold D.bls
  rw [List.map_map]; rfl
section
variable {P : Program} {w : World} {K : PySem.W.Frag} {mg : Str → Option Value} {base : Heap}
theorem ok_right (T : Tx K mg) : FnG P w K mg base CX0 4 T.a_l_right T.d_l_right ["_law_pot_here"] (spD K (fun ds => ds = [.pot]) (fun _ d => d = .bl true)) :=
  Fx.Fun.okGD T.f_l_right sc_l_right (fun ds q => by rw [q]; rfl) fun cdv A outer s E ds vs B H hr hG hx r hp => by
    subst hp
    obtain ⟨v, rfl, rv⟩ := rpl1 r
    refine right_words T hr hx rv fun wss l p t B1 H1 st1 okw l16 rp => ?_
    have hr1 : Room 1 _ := hr.mono (by decide)
    have hr2 : Room 2 _ := hr.mono (by decide)
    have hu : A.units + 3 + 66 < cLine := by have := hr.un; show _ < _; have e : (A.deeper (PyProof.Rows.envOfC "_law_right" (defScope s_l_right) s.heap.objs.size T.a_l_right cdv)).units = A.units + 3 := rfl; omega
    have wlen : (Wd wss).length = 16 := by rw [List.length_map, l16]
    have big : ∀ {n : Nat}, n ≤ 400 → n ≤ sizeLine := fun h => Nat.le_trans h (by decide)
    -- rows
    refine rb_setLc (i := 4) rfl sc_l_right.nd (PL := Eq (Rd T.C_Row wss)) (LC.imp (lM (f := toRow T.C_Row) (j := 6) (wi_lstE (en_var (i := 2) rfl rp)) (blkOk_by (N := N_l_right) (sc := defScope s_l_right) (own := [("_law_word", 6)]) (by decide +kernel)) (fun _ _ _ _ _ => pg_name sc_l_right.nd rfl (Or.inl rfl)) (fun _ => rfl) ?_ ?_) ?_) st1.bh fun q ds vs B2 H2 s2 n1 n2 h2 pl r2 => ?_
    · rw [wlen]; exact big (by decide)
    · intro d hd B2 v2 x2 r2 s0 H0 C cl fp
      obtain ⟨ws, hws, rfl⟩ := List.mem_map.mp hd
      exact en_row T.mk_Row (ok_init T) hr T.m_Row T.b_Row_init (en_var (i := 6) rfl r2) (okw ws hws)
    · intro es e
      rw [← e, List.map_map]; rfl
    subst pl
    have st2 : Fx.Step B H (upd B2 q (.lst vs)) H2 := st1.trans (s2.share n1 n2 h2)
    have x12 : Ex B1 (upd B2 q (.lst vs)) := s2.b.trans (Ex.new n2)
    have rrow : Rp K (upd B2 q (.lst vs)) (.lst (Rd T.C_Row wss)) (.ref q) := Rp.lst.mpr ⟨q, vs, rfl, upd_same, r2.mono (Ex.new n2)⟩
    have rwrd := rp.mono x12
    generalize upd B2 q (.lst vs) = Bq at st2 x12 rrow rwrd
    generalize V.ref q = rowsV at rrow
    -- for made, word in zip(rows, words)
    refine rb_for (g := gTup K 2 (gCons (gName 5) (gCons (gName 6) gNil))) (set := set2 5 6) (parts := pair?) PassesOwn.never rfl (wi_zip (ea_cons (en_var (i := 4) rfl rrow) (ea_cons (en_var (i := 2) rfl rwrd) ea_nil)) T.z_zip) (pg_tup rfl (pgs_cons (pg_name sc_l_right.nd rfl (Or.inr rfl)) (pgs_cons (pg_name sc_l_right.nd rfl (Or.inr rfl)) pgs_nil))) (gt_pair 5 6) st2.bh fun ds B3 H3 s3 hds => ?_
    subst hds
    have st3 := st2.trans s3
    refine ⟨fun i σ1 B4 H4 => ∃ a5 a6 a7 a8 a9 a10 : Option V, B4 = B3 ∧ Ex B3 H4 ∧ Ex H H4 ∧ σ1 = [some v, some l, some p, t, some rowsV, a5, a6, a7, a8, a9, a10, none, none, none], ⟨none, none, none, none, none, none, rfl, s3.bh, st3.h, rfl⟩,
      (fun i σ1 B4 H4 ⟨_, _, _, _, _, _, e, x, _⟩ => by subst e; exact ⟨Ex.refl _, x⟩), ?_, ?_⟩
    · rintro i d σ1 B4 H4 hd ⟨a5, a6, a7, a8, a9, a10, rfl, x1, x2, rfl⟩
      obtain ⟨ws, hws, rfl⟩ := zip_at hd
      have okws := okw ws (List.mem_of_getElem? hws)
      refine ⟨[rowD T.C_Row ws, wordD ws], rfl, fun B5 H5 us s5 rus => ?_⟩
      obtain ⟨mv, wv, rfl, rm, rw_⟩ := rpl2 rus
      have rrow5 := rrow.mono (s3.b.trans s5.b)
      have rwrd5 := rwrd.mono (s3.b.trans s5.b)
      -- told
      have told : ∀ {X : Cx} {σ : L2.St}, True := fun {_ _} => trivial
      refine rb_setLc (i := 7) rfl sc_l_right.nd (PL := Eq (D.bls (wss.map (aheadB ws)))) (LC.imp (lM (f := fun d => .bl (aheadB ws (unR d))) (j := 9) (wi_lstE (en_var (i := 4) rfl rrow5)) (blkOk_by (N := N_l_right) (sc := defScope s_l_right) (own := [("_law_mate", 9)]) (by decide +kernel)) (fun _ _ _ _ _ => pg_name sc_l_right.nd rfl (Or.inl rfl)) (fun _ => rfl) ?_ ?_) ?_) s5.bh fun q7 ds vs B6 H6 s6 n71 n72 h7 pl r7 => ?_
      · rw [List.length_map, l16]; exact big (by decide)
      · intro d hd B6 v6 x6 r6 s0 H0 C cl fp
        obtain ⟨u, hu1, rfl⟩ := rd_mem hd
        exact EN.eq (en_ahead T.own_Row.cl T.me_Row_is_ahead (ok_is_ahead T) hr1 T.b_Row_is_ahead (en_var (i := 5) rfl (rm.mono x6)) (en_var (i := 9) rfl r6)) (by rw [unR_row])
      · intro es e
        rw [← e, List.map_map, bls_map]
        exact List.map_congr_left fun u _ => by show D.bl (aheadB ws u) = D.bl (aheadB ws (unR (rowD T.C_Row u))); rw [unR_row]
      subst pl
      have st6 := s6.share n71 n72 h7
      have rt : Rp K (upd B6 q7 (.lst vs)) (.lst (D.bls (wss.map (aheadB ws)))) (.ref q7) := Rp.lst.mpr ⟨q7, vs, rfl, upd_same, r7.mono (Ex.new n72)⟩
      generalize upd B6 q7 (.lst vs) = Bt at st6 rt
      generalize V.ref q7 = toldV at rt
      -- due
      refine rb_setLc (i := 8) rfl sc_l_right.nd (PL := Eq (D.bls (wss.map (aheadB ws)))) (LC.imp (lM (f := fun d => .bl (aheadB ws (unR d))) (j := 10) (wi_lstE (en_var (i := 2) rfl (rwrd5.mono st6.b))) (blkOk_by (N := N_l_right) (sc := defScope s_l_right) (own := [("_law_other_word", 10)]) (by decide +kernel)) (fun _ _ _ _ _ => pg_name sc_l_right.nd rfl (Or.inl rfl)) (fun _ => rfl) ?_ ?_) ?_) st6.bh fun q8 ds vs8 B7 H7 s7 n81 n82 h8 pl r8 => ?_
      · rw [List.length_map, l16]; exact big (by decide)
      · intro d hd B6 v6 x6 r6 s0 H0 C cl fp
        obtain ⟨u, hu1, rfl⟩ := List.mem_map.mp hd
        refine EN.imp (ed_callO (ok_ahead T) hr2 T.m_l_ahead T.f_l_ahead.kp T.b_l_ahead (ea_cons (en_var (i := 6) rfl ((rw_.mono st6.b).mono x6)) (ea_cons (en_var (i := 10) rfl r6) ea_nil)) ⟨ws, u, rfl, okws.1, (okw u hu1).1⟩) ?_
        rintro d ⟨a, b, q, rfl⟩
        injection q with q1 q
        injection q with q2 _
        rw [unR_word]
        have e1 : unR (wordD ws) = unR (wordD a) := congrArg unR q1
        have e2 : unR (wordD u) = unR (wordD b) := congrArg unR q2
        rw [unR_word, unR_word] at e1 e2
        rw [e1, e2]
      · intro es e
        rw [← e, List.map_map, bls_map]
        exact List.map_congr_left fun u _ => by show D.bl (aheadB ws u) = D.bl (aheadB ws (unR (wordD u))); rw [unR_word]
      subst pl
      have st7 := st6.trans (s7.share n81 n82 h8)
      have rt7 := rt.mono (s7.b.trans (Ex.new (o := .lst vs8) n82))
      have rd7 : Rp K (upd B7 q8 (.lst vs8)) (.lst (D.bls (wss.map (aheadB ws)))) (.ref q8) := Rp.lst.mpr ⟨q8, vs8, rfl, upd_same, r8.mono (Ex.new n82)⟩
      generalize upd B7 q8 (.lst vs8) = Bd at st7 rt7 rd7
      generalize V.ref q8 = dueV at rd7
      have rm7 := rm.mono st7.b
      have rw7 := rw_.mono st7.b
      have rrow7 := rrow5.mono st7.b
      have rwrd7 := rwrd5.mono st7.b
      have l400 : (wss.map (aheadB ws)).length ≤ 400 := by rw [List.length_map, l16]; decide
      have hne : (!decide (shB (wss.map (aheadB ws)) = shB (wss.map (aheadB ws)))) = false := by rw [decide_eq_true rfl]; rfl
      refine rb_ifF (ET.eq (ed_or2 (ed_tcmp (en_callB T.z_repr bt_repr (ea_cons (en_var (i := 7) rfl rt7) ea_nil) fun ds q => q ▸ cd_reprB hG hu l400) (en_callB T.z_repr bt_repr (ea_cons (en_var (i := 8) rfl rd7) ea_nil) fun ds q => q ▸ cd_reprB hG hu l400) od_neT)
        (fun _ => ed_tcmp (en_callB (PL := Eq [.lst (D.bls (wss.map (aheadB ws)))]) T.z_repr bt_repr (ea_cons (EF.shEq (EF.imp (LC.ef (lM (f := fun d => .bl (aheadB ws (unR d))) (j := 9) (wi_lstE (en_var (i := 4) rfl rrow7)) (blkOk_by (N := N_l_right) (sc := defScope s_l_right) (own := [("_law_mate", 9)]) (by decide +kernel)) (fun _ _ _ _ _ => pg_name sc_l_right.nd rfl (Or.inl rfl)) (fun _ => rfl) ?_ ?_) sc_l_right.nd) ?_)) ea_nil) fun ds q => q ▸ cd_reprB hG hu l400)
          (en_callB T.z_repr bt_repr (ea_cons (en_var (i := 8) rfl rd7) ea_nil) fun ds q => q ▸ cd_reprB hG hu l400) od_neT)) ?_) st7.bh fun B8 H8 s8 => ?_
      · rw [List.length_map, l16]; exact big (by decide)
      · intro d hd B6 v6 x6 r6 s0 H0 C cl fp
        obtain ⟨u, hu1, rfl⟩ := rd_mem hd
        refine EN.imp (en_methK T.own_Row.cl T.me_Row_is_ahead (ok_is_ahead T) hr1 T.bk_Row_is_ahead (en_var (i := 5) rfl (rm7.mono x6)) (own_look ws) (en_var (i := 9) rfl r6) ⟨ws, u, rfl⟩) ?_
        rintro d ⟨a, b, q, rfl⟩
        injection q with q1 q
        injection q with q2 _
        have e1 : unR (rowD T.C_Row ws) = unR (rowD T.C_Row a) := congrArg unR q1
        have e2 : unR (rowD T.C_Row u) = unR (rowD T.C_Row b) := congrArg unR q2
        rw [unR_row, unR_row] at e1 e2
        rw [unR_row, e1, e2]
      · intro es e
        rw [← e, List.map_map, bls_map]
        exact List.map_congr_left fun u _ => by show D.bl (aheadB ws u) = D.bl (aheadB ws (unR (rowD T.C_Row u))); rw [unR_row]
      · rw [hne]; rfl
      have st8 := st7.trans s8
      have rm8 := rm7.mono s8.b
      have rw8 := rw7.mono s8.b
      have hz : (shN ws).length ≤ 40000 := Nat.le_trans (names_shown okws.1) (by have := okws.2; omega)
      have e4 : ("Row(" : Str).length = 4 := by decide +kernel
      have e5 : (")" : Str).length = 1 := by decide +kernel
      have hsz : 4 + (shN ws).length + 1 ≤ sizeLine := Nat.le_trans (by omega : _ ≤ 50000) (by decide)
      refine rb_ifF (ET.eq (ed_or2 (ed_tcmp (EN.eq (en_ahead T.own_Row.cl T.me_Row_is_ahead (ok_is_ahead T) hr1 T.b_Row_is_ahead (en_var (i := 5) rfl rm8) (en_row T.mk_Row (ok_init T) hr T.m_Row T.b_Row_init (EF.shEq (ef_callTy T.z_list bt_list (ea_cons (en_var (i := 6) rfl rw8) ea_nil) fun ds q => q ▸ cdf_listL)) okws)) (by rw [ahead_irr])) en_bl od_notB)
        (fun _ => ed_tcmp (en_callB T.z_repr bt_repr (ea_cons (en_var (i := 5) rfl rm8) ea_nil) fun ds q => q ▸ cd_rowRepr T.sp_Row_repr (ok_repr T) hr2 hG T.b_Row_repr okws)
          (ed_op (ed_op en_str (en_callB T.z_repr bt_repr (ea_cons (en_var (i := 6) rfl rw8) ea_nil) fun ds q => q ▸ cd_reprN hG hu okws.1 (by have := okws.2; omega)) (od_addS (by rw [e4]; omega))) en_str (od_addS (by rw [Str.length_append, e4, e5]; exact hsz))) od_neT)) ?_) s8.bh fun B9 H9 s9 => ?_
      · have e : rowText ws = "Row(" ++ shN ws ++ ")" := by unfold rowText; rw [empty_app]
        rw [e]; simp
      have st9 := st8.trans s9
      have rm9 := rm8.mono s9.b
      refine rb_for (g := gTup K 2 (gCons (gName 9) (gCons (gName 10) gNil))) (set := set2 9 10) (parts := pair?) PassesOwn.never rfl (wi_zip (ea_cons (en_var (i := 4) rfl (rrow7.mono (s8.b.trans s9.b))) (ea_cons (en_var (i := 2) rfl (rwrd7.mono (s8.b.trans s9.b))) ea_nil)) T.z_zip) (pg_tup rfl (pgs_cons (pg_name sc_l_right.nd rfl (Or.inl rfl)) (pgs_cons (pg_name sc_l_right.nd rfl (Or.inl rfl)) pgs_nil))) (gt_pair 9 10) s9.bh fun ds B10 H10 s10 hds => ?_
      subst hds
      refine ⟨fun j σ1 B11 H11 => ∃ a9 a10 : Option V, B11 = B10 ∧ Ex B10 H11 ∧ Ex H5 H11 ∧ σ1 = [some v, some l, some p, t, some rowsV, some mv, some wv, some toldV, some dueV, a9, a10, none, none, none], ⟨_, _, rfl, s10.bh, (st9.trans s10).h, rfl⟩,
        (fun i σ1 B4 H4 ⟨_, _, e, x, _⟩ => by subst e; exact ⟨Ex.refl _, x⟩), ?_, ?_⟩
      · rintro j d σ1 B11 H11 hd ⟨a9, a10, rfl, y1, y2, rfl⟩
        obtain ⟨us, hus, rfl⟩ := zip_at hd
        have okus := okw us (List.mem_of_getElem? hus)
        refine ⟨[rowD T.C_Row us, wordD us], rfl, fun B12 H12 ms s12 rms => ?_⟩
        obtain ⟨mv2, wv2, rfl, rm2, _⟩ := rpl2 rms
        have rm12 := rm9.mono (s10.b.trans s12.b)
        refine rb_ifF (ET.eq (ed_tcmp (en_bm (dx := .lst (D.bls [aheadB ws us, aheadB us ws, decide (ws = us)])) (PL := Eq [.bl true]) rfl PySem.F.plainAttrs_list PySem.F.slot_list_count PySem.F.type_list_count
            (en_lst (ea_cons (en_ahead T.own_Row.cl T.me_Row_is_ahead (ok_is_ahead T) hr1 T.b_Row_is_ahead (en_var (i := 5) rfl rm12) (en_var (i := 9) rfl rm2)) (ea_cons (en_ahead T.own_Row.cl T.me_Row_is_ahead (ok_is_ahead T) hr1 T.b_Row_is_ahead (en_var (i := 9) rfl rm2) (en_var (i := 5) rfl rm12)) (ea_cons (ed_cmp (en_var (i := 5) rfl rm12) (en_var (i := 9) rfl rm2) (od_eqO T.sp_Row_eq (ok_eq T) hr1 T.b_Row_eq other_own ⟨ws, us, rfl, okws.1, okus.1⟩ ?_)) ea_nil))) (by exact (by decide : 3 ≤ sizeLine)))
            (ea_cons en_bl ea_nil) fun ds q => q ▸ md_countB) en_int od_neI) ?_) s12.bh fun B13 H13 s13 => rb_nil ⟨B11, _, _, rfl, (s12.b.trans s12.bh).trans s13.h, (y2.trans s12.h).trans s13.h, rfl⟩
        · rintro d ⟨a, b, q, rfl⟩
          injection q with q1 q
          injection q with q2 _
          have e1 : unR (rowD T.C_Row ws) = unR (rowD T.C_Row a) := congrArg unR q1
          have e2 : unR (rowD T.C_Row us) = unR (rowD T.C_Row b) := congrArg unR q2
          rw [unR_row, unR_row] at e1 e2
          rw [e1, e2]
        · rw [one_of_three]; rfl
      · rintro σ1 B11 H11 ⟨a9, a10, rfl, y1, y2, rfl⟩
        exact rb_nil ⟨B4, _, _, _, _, _, _, rfl, (s5.b.trans s5.bh).trans y2, (x2.trans s5.h).trans y2, rfl⟩
    · rintro σ1 B4 H4 ⟨a5, a6, a7, a8, a9, a10, rfl, x1, x2, rfl⟩
      have st4 : Fx.Step B H B4 H4 := Fx.Step.grow st3 x1 x2
      have rrow4 := rrow.mono s3.b
      have e0 : wss[0]? = some wss[0] := List.getElem?_eq_getElem (by omega)
      generalize wss[0] = w0 at e0
      have at0 : L2.atI (Rd T.C_Row wss) ((0 : Nat) : Int) = some (rowD T.C_Row w0) := Fx.atI_nat (by rw [List.getElem?_map, e0]; rfl)
      -- order = [rows[0]]
      refine rb_setF (i := 11) (PL := Eq (Rd T.C_Row [w0])) sc_l_right.nd (ef_lst (ea_cons (ed_ix (en_var (i := 4) rfl rrow4) en_int (ix_lst at0)) ea_nil) (fun ds q => by subst q; exact (by decide : 1 ≤ sizeLine))) x1 fun o ds vs B5 H5 s5 n51 n52 h5 pl r5 => ?_
      subst pl
      have st5 := st4.trans s5
      have n0 : H o = none := st4.h.back n51
      -- for made in rows[1:]
      have cut1 : cutD (Rd T.C_Row wss) (some 1) none = Rd T.C_Row (wss.drop 1) := by
        have e := cutD_from (Rd T.C_Row wss) 1
        exact e.trans List.map_drop.symm
      refine rb_for (g := gName 5) (set := set1 5) (parts := fun d => some [d]) PassesOwn.never rfl (wi_lstE (EF.shEq (ef_slL (en_var (i := 4) rfl (rrow4.mono s5.b)) (eo_some en_int) eo_none))) (pg_name sc_l_right.nd rfl (Or.inr rfl)) (gt_name 5) s5.bh fun ds B6 H6 s6 hds => ?_
      rw [cut1] at hds
      subst hds
      have st6 := st5.trans s6
      have kp := s6.keep n52 h5
      refine ⟨fun i σ1 B7 H7 => ∃ (os : List (List Str)) (vs : List V) (a5 a12 : Option V), Fx.Step B H B7 H7 ∧ Ex B6 B7 ∧ B7 o = none ∧ H7 o = some (.lst vs) ∧ RpL K B7 (Rd T.C_Row os) vs ∧ Srt os ∧ os.length = i + 1 ∧ σ1 = [some v, some l, some p, t, some rowsV, a5, a6, a7, a8, a9, a10, some (.ref o), a12, none],
        ⟨[w0], vs, _, _, st6, Ex.refl _, kp.1, kp.2, r5.mono s6.b, List.pairwise_singleton _ _, rfl, rfl⟩, (fun i σ1 B7 H7 ⟨_, _, _, _, st, x, _⟩ => ⟨x, st.bh⟩), ?_, ?_⟩
      · rintro i d σ1 B7 H7 hd ⟨os, vs, a5, a12, st7, x7, b7, h7, r7, srt, l7, rfl⟩
        have hi : i < 15 := by
          have := (List.getElem?_eq_some_iff.mp hd).1
          rw [List.length_map, List.length_drop] at this
          omega
        rw [List.getElem?_map] at hd
        obtain ⟨ws, _, rfl⟩ := Option.map_eq_some_iff.mp hd
        refine ⟨[rowD T.C_Row ws], rfl, fun B8 H8 us s8 rus => ?_⟩
        obtain ⟨mv, rfl, rm⟩ := rpl1 rus
        have k8 := s8.keep b7 h7
        have r8 := r7.mono s8.b
        have olen : vs.length = os.length := by rw [← r7.length, List.length_map]
        have new8 : Ex B8 (upd B8 o (.lst vs)) := Ex.new k8.1
        have ro : Rp K (upd B8 o (.lst vs)) (.lst (Rd T.C_Row os)) (.ref o) := Rp.lst.mpr ⟨o, vs, rfl, upd_same, r8.mono new8⟩
        -- at = len([...])
        refine rb_set (i := 12) (P := Eq (.int ((os.filter fun y => aheadB y ws).length : Nat))) sc_l_right.nd (EN.eq (en_callB (PL := Eq [.lst (Rd T.C_Row (os.filter fun y => aheadB y ws))]) T.z_len bt_len (ea_cons (EF.shEq (EF.imp (LC.ef (lT (f := fun d => d) (t := fun d => aheadB (unR d) ws) (j := 9) (wi_lstE (en_var (i := 11) rfl ro)) (blkOk_by (N := N_l_right) (sc := defScope s_l_right) (own := [("_law_mate", 9)]) (by decide +kernel)) (fun _ _ _ _ _ => pg_name sc_l_right.nd rfl (Or.inl rfl)) (fun _ => rfl) ?_ ?_ ?_) sc_l_right.nd) ?_)) ea_nil) fun ds q => q ▸ cd_lenL) (by rw [List.length_map])) (s8.bh.upd_left k8.2) fun v9 d9 B9 H9 s9 q9 r9 => ?_
        · rw [List.length_map]; exact big (by omega)
        · intro d hd B6 v6 x6 r6 s0 H0 C cl fp
          obtain ⟨u, hu1, rfl⟩ := rd_mem hd
          exact ET.eq (et_valE (en_ahead T.own_Row.cl T.me_Row_is_ahead (ok_is_ahead T) hr1 T.b_Row_is_ahead (en_var (i := 9) rfl r6) (en_var (i := 5) rfl ((rm.mono new8).mono x6)))) (by rw [unR_row])
        · intro d hd ht B6 v6 x6 r6 s0 H0 C cl fp
          exact en_var (i := 9) rfl r6
        · intro es e
          rw [← e, List.map_id', List.filter_map]
          congr 1
          exact List.filter_congr fun u _ => by show aheadB u ws = aheadB (unR (rowD T.C_Row u)) ws; rw [unR_row]
        subst q9
        cases Rp.int.mp r9
        have x9 : Ex B8 H9 := s8.bh.trans s9.h
        have h9 : H9 o = some (.lst vs) := s9.h _ _ k8.2
        have flen : (os.filter fun y => aheadB y ws).length ≤ os.length := List.length_filter_le _ _
        refine rb_insert (i := 11) (q := o) (vs := vs) (c := ((os.filter fun y => aheadB y ws).length : Nat)) (P := Eq (rowD T.C_Row ws)) rfl k8.1 h9 (Nat.lt_of_lt_of_le (by omega : vs.length < 400) (by decide)) (en_var (i := 12) rfl (Rp.int.mpr rfl)) (en_var (i := 5) rfl rm) (by omega) (by omega) x9 fun v10 d10 B10 H10 s10 b10 q10 r10 => rb_nil ?_
        subst q10
        have st8 := st7.trans s8
        refine ⟨B10, os.take (os.filter fun y => aheadB y ws).length ++ [ws] ++ os.drop (os.filter fun y => aheadB y ws).length, _, _, _, ?_, x7.trans (s8.b.trans s10.b), b10, upd_same, ?_, srt_insert srt, ?_, rfl⟩
        · refine ⟨st8.b.trans s10.b, s10.bh.put b10, ((st8.h.trans s9.h).trans s10.h).wr n0, fun a h1 h2 => s10.nw a (st8.nw a h1 h2) fun z => h2 ((st8.h.trans s9.h).back z)⟩
        · rw [Int.toNat_natCast]
          have er : ∀ n : Nat, Rd T.C_Row (os.take n ++ [ws] ++ os.drop n) = (Rd T.C_Row os).take n ++ [rowD T.C_Row ws] ++ (Rd T.C_Row os).drop n := fun n => by
            show (os.take n ++ [ws] ++ os.drop n).map (rowD T.C_Row) = _
            rw [List.map_append, List.map_append, List.map_take, List.map_drop]; rfl
          rw [er]
          exact ((r8.mono s10.b).take _ |>.append (RpL.cons r10 RpL.nil)).append ((r8.mono s10.b).drop _)
        · simp only [List.length_append, List.length_take, List.length_drop, List.length_singleton]
          omega
      · rintro σ1 B7 H7 ⟨os, vs, a5, a12, st7, x7, b7, h7, r7, srt, l7, rfl⟩
        have ro : Rp K (upd B7 o (.lst vs)) (.lst (Rd T.C_Row os)) (.ref o) := Rp.lst.mpr ⟨o, vs, rfl, upd_same, r7.mono (Ex.new b7)⟩
        have ol : os.length ≤ 16 := by rw [List.length_map, List.length_drop] at l7; omega
        have xo : Ex (upd B7 o (.lst vs)) H7 := st7.bh.upd_left h7
        refine rb_ret (P := Eq (.bl true)) (EN.eq (en_notV (en_callB (PL := Eq [.lst (D.bls (List.replicate (os.length - 1) false))]) T.z_any bt_any (ea_cons (EF.shEq (EF.imp (LC.ef (lM (f := fun _ => .bl false) (j := 13) (wi_rangeE (ed_op (EN.eq (en_callB T.z_len bt_len (ea_cons (en_var (i := 11) rfl ro) ea_nil) fun ds q => q ▸ cd_lenL) (by rw [List.length_map])) en_int od_sub) ⟨by omega, by omega⟩ T.z_range) (blkOk_by (N := N_l_right) (sc := defScope s_l_right) (own := [("_law_k", 13)]) (by decide +kernel)) (fun _ _ _ _ _ => pg_name sc_l_right.nd rfl (Or.inl rfl)) (fun _ => rfl) ?_ ?_) sc_l_right.nd) ?_)) ea_nil) fun ds q => q ▸ cd_any rfl)) ?_) xo fun v d B8 H8 s8 q8 r8 => ?_
        · rw [upTo_length]; exact big (by omega)
        · intro d hd B6 v6 x6 r6 s0 H0 C cl fp
          obtain ⟨i, hi, rfl⟩ := List.mem_map.mp hd
          have hi' := List.mem_range.mp hi
          have hi2 : i + 1 < os.length := by omega
          have e1 : os[i]? = some os[i] := List.getElem?_eq_getElem (by omega)
          have e2 : os[i + 1]? = some os[i + 1] := List.getElem?_eq_getElem hi2
          have hs : aheadB os[i + 1] os[i] = false := List.pairwise_iff_getElem.mp srt i (i + 1) (by omega) hi2 (by omega)
          generalize os[i] = y at e1 hs
          generalize os[i + 1] = z at e2 hs
          have i1 : L2.atI (Rd T.C_Row os) (i : Int) = some (rowD T.C_Row y) := Fx.atI_nat (by rw [List.getElem?_map, e1]; rfl)
          have i2 : L2.atI (Rd T.C_Row os) ((i : Int) + 1) = some (rowD T.C_Row z) := by
            have := Fx.atI_nat (ds := Rd T.C_Row os) (i := i + 1) (d := rowD T.C_Row z) (by rw [List.getElem?_map, e2]; rfl)
            rwa [show ((i + 1 : Nat) : Int) = (i : Int) + 1 from by omega] at this
          exact EN.eq (en_ahead T.own_Row.cl T.me_Row_is_ahead (ok_is_ahead T) hr1 T.b_Row_is_ahead (ed_ix (en_var (i := 11) rfl (ro.mono x6)) (ed_op (en_var (i := 13) rfl r6) en_int od_add) (ix_lst i2)) (ed_ix (en_var (i := 11) rfl (ro.mono x6)) (en_var (i := 13) rfl r6) (ix_lst i1))) (by rw [hs])
        · intro es e
          rw [← e]
          unfold D.bls
          rw [List.map_replicate, List.map_const', upTo_length]
          congr 1
          omega
        · congr 1
          simp
        · exact Ret.of ⟨st7.b, fun a u ha => s8.h _ _ (st7.bh a u ha), st7.h.trans s8.h, st7.nw⟩ q8.symm (by subst q8; exact Rp.bl.mpr (Rp.bl.mp r8))
end
end Fk
set_option Elab.async false
set_option linter.all false
set_option maxRecDepth 100000
set_option maxHeartbeats 4000000
namespace Fk
open PySem L2 Fx
section
variable {P : Program} {w : World} {K : PySem.W.Frag} {mg : Str → Option Value} {base : Heap}
theorem ok_law (T : Tx K mg) : FnG P w K mg base CX0 5 T.a_law T.d_law ["_law_script"] (spD K (fun ds => ∃ ns : List Int, ds = [.scr ns] ∧ ns.length ≤ 63) (fun _ d => d = .bl true)) :=
  Fx.Fun.okGD T.f_law sc_law (fun ds ⟨_, q, _⟩ => by rw [q]; rfl) fun cdv A outer s E ds vs B H hr hG hx r hp => by
    obtain ⟨ns, rfl, hl⟩ := hp
    obtain ⟨v, rfl, rv⟩ := rpl1 r
    have hr1 : Room 1 _ := hr.mono (by decide)
    generalize hn : (if (if ((ns.length : Nat) : Int) < 4 then ((ns.length : Nat) : Int) else 4) > 1 then (if ((ns.length : Nat) : Int) < 4 then ((ns.length : Nat) : Int) else 4) else 1) = n
    have hn1 : 1 ≤ n ∧ n ≤ 4 := by subst hn; split <;> split <;> omega
    refine rb_ret (P := Eq (.bl true)) (EN.eq (en_callB (PL := Eq [.lst (D.bls (List.replicate n.toNat true))]) T.z_all bt_all (ea_cons (EF.shEq (EF.imp (LC.ef (lM (f := fun _ => .bl true) (j := 1) (wi_rangeE (n := n) (EN.eq (en_callB T.z_max bt_max (ea_cons en_int (ea_cons (en_callB T.z_min bt_min (ea_cons en_int (ea_cons (en_callB T.z_len bt_len (ea_cons (en_var (i := 0) rfl rv) ea_nil) fun ds q => q ▸ cd_lenSc) ea_nil)) fun ds q => q ▸ cd_min rfl) ea_nil)) fun ds q => q ▸ cd_max rfl) (by rw [hn])) ⟨by omega, by omega⟩ T.z_range)
      (blkOk_by (N := N_law) (sc := defScope s_law) (own := [("_law_k", 1)]) (by decide +kernel)) (fun _ _ _ _ _ => pg_name sc_law.nd rfl (Or.inl rfl)) (fun _ => rfl) ?_ ?_) sc_law.nd) ?_)) ea_nil) fun ds q => q ▸ cd_all rfl) ?_) hx fun v d B' H' s q r => Ret.of s q.symm r
    · rw [upTo_length]
      exact Nat.le_trans (by omega : n.toNat ≤ 4) (by decide)
    · intro d hd B6 v6 x6 r6 s0 H0 C cl fp
      obtain ⟨i, hi, rfl⟩ := List.mem_map.mp hd
      have hi' := List.mem_range.mp hi
      exact EN.imp (en_call (ok_right T) hr hG T.m_l_right T.f_l_right.kp T.b_l_right (ea_consN (ed_callO (ok_pot T) hr1 T.m_l_pot T.f_l_pot.kp T.b_l_pot (ea_cons (en_var (i := 0) rfl (rv.mono x6)) (ea_cons (en_var (i := 1) rfl r6) ea_nil)) ⟨ns, (i : Int), rfl, by omega, by omega⟩) ea_nil) fun ds ⟨d, _, q, e, e2⟩ => by rw [q, e, ← e2]) fun d ⟨_, _, e⟩ => e.symm
    · intro es e
      rw [← e]
      unfold D.bls
      rw [List.map_replicate, List.map_const', upTo_length]
    · congr 1
      simp
end
end Fk
open PySem PySem.W PyProof.Rows
set_option maxRecDepth 100000 in
set_option maxHeartbeats 0 in
theorem PySem.Challenge.cw_fixrest_k14_order_of_rows_holds : PySem.Challenge.rw_fixrest_k14_order_of_rows.Holds := by
  w_on; o_law; k_head; (case hw => w_witness2)
  k_fill
  refine Fx.walkG (l := PySem.Challenge.rw_fixrest_k14_order_of_rows) (n := 63) (k := 5) (x := "_law_script") rfl (by decide) rfl ⟨rfl, by decide, by decide⟩ (fun w h Y => PySem.W.kIn_of Y) ?F
  case F =>
    intro w mg fa h KX G hmg
    refine' Exists.elim (Fk.all_mk KX G hmg ?gC_Row ?g_is_list ?l_is_list ?c_is_list ?k_is_list ?g_is_name ?l_is_name ?c_is_name ?k_is_name ?g_want_few_runs ?l_want_few_runs ?c_want_few_runs ?k_want_few_runs ?g_l_pot ?l_l_pot ?c_l_pot ?k_l_pot ?g_l_draw ?l_l_draw ?c_l_draw ?k_l_draw ?g_l_pick ?l_l_pick ?c_l_pick ?k_l_pick ?g_l_labels ?l_l_labels ?c_l_labels ?k_l_labels ?g_l_ahead ?l_l_ahead ?c_l_ahead ?k_l_ahead ?g_l_lesser ?l_l_lesser ?c_l_lesser ?k_l_lesser ?g_l_near_labels ?l_l_near_labels ?c_l_near_labels ?k_l_near_labels ?g_l_bent ?l_l_bent ?c_l_bent ?k_l_bent ?g_l_right ?l_l_right ?c_l_right ?k_l_right ?g_law ?l_law ?c_law ?k_law ?g_Row_init ?i_Row_init ?l_Row_init ?c_Row_init ?k_Row_init ?t_Row_init ?g_Row_is_ahead ?i_Row_is_ahead ?l_Row_is_ahead ?c_Row_is_ahead ?k_Row_is_ahead ?g_Row_eq ?i_Row_eq ?l_Row_eq ?c_Row_eq ?k_Row_eq ?g_Row_repr ?i_Row_repr ?l_Row_repr ?c_Row_repr ?k_Row_repr ?pg_Row ?hd_Row ?po_Row ?sa_Row ?ha_Row ?hn_Row ?ht_Row ?hm_Row ?mk_Row ?kc_Row ?n_Row_own_names ?z_isinstance ?z_list ?z_tuple ?z_str ?z_len ?z_all ?z_enumerate ?z_abs ?z_max ?z_int ?z_divmod ?z_range ?z_zip ?z_min ?z_repr ?z_any ?v_LETTERS ?v_MOST_LETTERS ?v_MOST_RUNS) ?fin
    (case gC_Row => k_is)
    (case g_is_list => k_is)
    (case l_is_list => k_is)
    (case c_is_list => k_is)
    (case k_is_list => k_is)
    (case g_is_name => k_is)
    (case l_is_name => k_is)
    (case c_is_name => k_is)
    (case k_is_name => k_is)
    (case g_want_few_runs => k_is)
    (case l_want_few_runs => k_is)
    (case c_want_few_runs => k_is)
    (case k_want_few_runs => k_is)
    (case g_l_pot => k_is)
    (case l_l_pot => k_is)
    (case c_l_pot => k_is)
    (case k_l_pot => k_is)
    (case g_l_draw => k_is)
    (case l_l_draw => k_is)
    (case c_l_draw => k_is)
    (case k_l_draw => k_is)
    (case g_l_pick => k_is)
    (case l_l_pick => k_is)
    (case c_l_pick => k_is)
    (case k_l_pick => k_is)
    (case g_l_labels => k_is)
    (case l_l_labels => k_is)
    (case c_l_labels => k_is)
    (case k_l_labels => k_is)
    (case g_l_ahead => k_is)
    (case l_l_ahead => k_is)
    (case c_l_ahead => k_is)
    (case k_l_ahead => k_is)
    (case g_l_lesser => k_is)
    (case l_l_lesser => k_is)
    (case c_l_lesser => k_is)
    (case k_l_lesser => k_is)
    (case g_l_near_labels => k_is)
    (case l_l_near_labels => k_is)
    (case c_l_near_labels => k_is)
    (case k_l_near_labels => k_is)
    (case g_l_bent => k_is)
    (case l_l_bent => k_is)
    (case c_l_bent => k_is)
    (case k_l_bent => k_is)
    (case g_l_right => k_is)
    (case l_l_right => k_is)
    (case c_l_right => k_is)
    (case k_l_right => k_is)
    (case g_law => k_is)
    (case l_law => k_is)
    (case c_law => k_is)
    (case k_law => k_is)
    (case g_Row_init => k_is)
    (case i_Row_init => k_is)
    (case l_Row_init => k_is)
    (case c_Row_init => k_is)
    (case k_Row_init => k_is)
    (case t_Row_init => k_is)
    (case g_Row_is_ahead => k_is)
    (case i_Row_is_ahead => k_is)
    (case l_Row_is_ahead => k_is)
    (case c_Row_is_ahead => k_is)
    (case k_Row_is_ahead => k_is)
    (case g_Row_eq => k_is)
    (case i_Row_eq => k_is)
    (case l_Row_eq => k_is)
    (case c_Row_eq => k_is)
    (case k_Row_eq => k_is)
    (case g_Row_repr => k_is)
    (case i_Row_repr => k_is)
    (case l_Row_repr => k_is)
    (case c_Row_repr => k_is)
    (case k_Row_repr => k_is)
    (case pg_Row => k_is)
    (case hd_Row => k_is)
    (case po_Row => k_is)
    (case sa_Row => k_is)
    (case ha_Row => k_is)
    (case hn_Row => k_is)
    (case ht_Row => k_is)
    (case hm_Row => k_is)
    (case mk_Row => k_is)
    (case kc_Row => k_is)
    (case n_Row_own_names => k_is)
    (case z_isinstance => k_is)
    (case z_list => k_is)
    (case z_tuple => k_is)
    (case z_str => k_is)
    (case z_len => k_is)
    (case z_all => k_is)
    (case z_enumerate => k_is)
    (case z_abs => k_is)
    (case z_max => k_is)
    (case z_int => k_is)
    (case z_divmod => k_is)
    (case z_range => k_is)
    (case z_zip => k_is)
    (case z_min => k_is)
    (case z_repr => k_is)
    (case z_any => k_is)
    (case v_LETTERS => k_is)
    (case v_MOST_LETTERS => k_is)
    (case v_MOST_RUNS => k_is)
    case fin =>
      intro T hT
      subst hT
      exact ⟨T.d_law, T.bl_law, fun base _ _ => Fk.ok_law T⟩
