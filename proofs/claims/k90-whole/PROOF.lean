import PyProof.Rows.All
import Wide.All
import OpenK.AllK
import Wide.FinOn
import KE.KStateDown
import KE.KMathG
import HandS.Base
import HandS.Call
import HandS.List
import HandS.Comp
import HandS.Ends
import HandS.Dict
import HandS.Iter
import HandS.Text
import HandS.More
import HandS.Exc
import HandS.ExcOwn
import HandS.ExcInit
import HandS.TryOnly
import HandS.Words
import HandS.WordsList
import HandS.WordsDict
import HandS.WordsExc
import HandS.Defaults
import HandS.CallLocal
import HandS.Zip
import HandS.Wide
import HandS.Gcd
import HandS.Flow
import Flt.RightSqrt
import HandS.HeadHook1
import HandS.HeadHook2
import HandS.HeadHook3
import HandS.HeadHook4
import PySem.Challenge.RW_orrery_k90_whole_edits_and_undos
import KE.KSuper
import KE.KExcSuper
import HandS.ExcSuper
import HandS.Nested
import KE.HD0
import KE.HD1
import KE.HD2
import KE.HD3
import HandS.Head2
import HandS.HeadEnd
set_option Elab.async false
set_option linter.all false
set_option maxRecDepth 100000
set_option maxHeartbeats 4000000
/-! K9A: denotations. A value v stands in a heap for a datum d (Dn); an expression's reading, in a context that says what each slot stands for, gives a datum (EvG): no heap is spoken of.
The visible heap H0 is a part of the real one H: what is not in it (a list that grows, an object that is being made) may change. -/
namespace K9
open PySem PySem.Spec PyProof.Rows L2

/-! ### what a value stands for -/
structure Dn where
  holds : Hp → V → Prop
  mono : ∀ {H H' : Hp} {v : V}, Same H H' → holds H v → holds H' v
def PV (x : V) : Dn := ⟨fun _ v => v = x, fun _ h => h⟩
abbrev PI (i : Int) : Dn := PV (.int i)
abbrev PS (x : Str) : Dn := PV (.str x)
abbrev PB (b : Bool) : Dn := PV (.bl b)
abbrev PN : Dn := PV .non
theorem same_t {K : PySem.W.Frag} {H H' : Hp} {a : Addr} {xs : List V} (e : Same H H') (h : SqT K H a xs) : SqT K H' a xs := by
  rcases h with (h | ⟨o, h⟩) | h
  · exact .inl (.inl (e _ _ h))
  · exact .inl (.inr ⟨o, e _ _ h⟩)
  · exact .inr h
def AllH (H : Hp) : List Dn → List V → Prop
  | [], [] => True
  | d :: ds, v :: vs => d.holds H v ∧ AllH H ds vs
  | _, _ => False
theorem AllH.mono {H H' : Hp} (e : Same H H') : ∀ {ds : List Dn} {vs : List V}, AllH H ds vs → AllH H' ds vs
  | [], [], _ => trivial
  | d :: ds, v :: vs, h => ⟨d.mono e h.1, AllH.mono e h.2⟩
  | [], _ :: _, h => h.elim
  | _ :: _, [], h => h.elim
theorem AllH.len {H : Hp} : ∀ {ds : List Dn} {vs : List V}, AllH H ds vs → ds.length = vs.length
  | [], [], _ => rfl
  | d :: ds, v :: vs, h => congrArg Nat.succ (AllH.len h.2)
  | [], _ :: _, h => h.elim
  | _ :: _, [], h => h.elim
theorem AllH.get {H : Hp} : ∀ {ds : List Dn} {vs : List V} {i : Nat} {d : Dn}, AllH H ds vs → ds[i]? = some d → ∃ v, vs[i]? = some v ∧ d.holds H v
  | [], [], _, _, _, e => by simp at e
  | d :: ds, v :: vs, 0, d', h, e => by
    have e' : d = d' := by simpa using e
    subst e'
    exact ⟨v, by simp, h.1⟩
  | d :: ds, v :: vs, i + 1, d', h, e => by
    obtain ⟨x, h1, h2⟩ := AllH.get (i := i) h.2 (by simpa using e)
    exact ⟨x, by simpa using h1, h2⟩
  | [], _ :: _, _, _, h, _ => h.elim
  | _ :: _, [], _, _, h, _ => h.elim
theorem AllH.at_ {H : Hp} {ds : List Dn} {vs : List V} {i : Nat} {v : V} (h : AllH H ds vs) (e : vs[i]? = some v) : ∃ d, ds[i]? = some d ∧ d.holds H v := by
  have hl := h.len
  have hi : i < vs.length := (List.getElem?_eq_some_iff.mp e).1
  have hd : ds[i]? = some (ds[i]'(by omega)) := List.getElem?_eq_getElem (by omega)
  obtain ⟨x, h1, h2⟩ := h.get hd
  rw [e] at h1
  cases h1
  exact ⟨_, hd, h2⟩
theorem AllH.app {H : Hp} : ∀ {ds es : List Dn} {vs ws : List V}, AllH H ds vs → AllH H es ws → AllH H (ds ++ es) (vs ++ ws)
  | [], _, [], _, _, h => h
  | d :: ds, es, v :: vs, ws, h, k => ⟨h.1, AllH.app h.2 k⟩
  | [], _, _ :: _, _, h, _ => h.elim
  | _ :: _, _, [], _, h, _ => h.elim
theorem AllH.drop {H : Hp} : ∀ {ds : List Dn} {vs : List V} (n : Nat), AllH H ds vs → AllH H (ds.drop n) (vs.drop n)
  | _, _, 0, h => h
  | [], [], _ + 1, _ => trivial
  | d :: ds, v :: vs, n + 1, h => AllH.drop n h.2
  | [], _ :: _, _ + 1, h => h.elim
  | _ :: _, [], _ + 1, h => h.elim
theorem AllH.take {H : Hp} : ∀ {ds : List Dn} {vs : List V} (n : Nat), AllH H ds vs → AllH H (ds.take n) (vs.take n)
  | _, _, 0, _ => trivial
  | [], [], _ + 1, _ => trivial
  | d :: ds, v :: vs, n + 1, h => ⟨h.1, AllH.take n h.2⟩
  | [], _ :: _, _ + 1, h => h.elim
  | _ :: _, [], _ + 1, h => h.elim
theorem AllH.pv {H : Hp} : ∀ {xs : List V} {vs : List V}, AllH H (xs.map PV) vs → vs = xs
  | [], [], _ => rfl
  | x :: xs, v :: vs, h => by
    have e : v = x := h.1
    rw [e, AllH.pv h.2]
  | [], _ :: _, h => h.elim
  | _ :: _, [], h => h.elim
theorem AllH.vp {H : Hp} : ∀ {xs : List V}, AllH H (xs.map PV) xs
  | [] => trivial
  | _ :: _ => ⟨rfl, AllH.vp⟩
/-- a tuple, a list -/
def PT (K : PySem.W.Frag) (ds : List Dn) : Dn := ⟨fun H v => ∃ a vs, v = .ref a ∧ SqT K H a vs ∧ AllH H ds vs, fun e ⟨a, vs, h1, h2, h3⟩ => ⟨a, vs, h1, same_t e h2, h3.mono e⟩⟩
def PL (ds : List Dn) : Dn := ⟨fun H v => ∃ a vs, v = .ref a ∧ H a = some (.lst vs) ∧ AllH H ds vs, fun e ⟨a, vs, h1, h2, h3⟩ => ⟨a, vs, h1, e _ _ h2, h3.mono e⟩⟩
def FldH (H : Hp) : List (Str × Dn) → List (Str × V) → Prop
  | [], [] => True
  | p :: ds, q :: vs => p.1 = q.1 ∧ p.2.holds H q.2 ∧ FldH H ds vs
  | _, _ => False
theorem FldH.mono {H H' : Hp} (e : Same H H') : ∀ {ds : List (Str × Dn)} {vs : List (Str × V)}, FldH H ds vs → FldH H' ds vs
  | [], [], _ => trivial
  | d :: ds, v :: vs, h => ⟨h.1, d.2.mono e h.2.1, FldH.mono e h.2.2⟩
  | [], _ :: _, h => h.elim
  | _ :: _, [], h => h.elim
theorem FldH.len {H : Hp} : ∀ {ds : List (Str × Dn)} {vs : List (Str × V)}, FldH H ds vs → ds.length = vs.length
  | [], [], _ => rfl
  | d :: ds, v :: vs, h => congrArg Nat.succ (FldH.len h.2.2)
  | [], _ :: _, h => h.elim
  | _ :: _, [], h => h.elim
theorem FldH.look {H : Hp} {f : Str} {d : Dn} : ∀ {ds : List (Str × Dn)} {vs : List (Str × V)}, FldH H ds vs → ds.lookup f = some d → ∃ v, vs.lookup f = some v ∧ d.holds H v
  | [], [], _, e => by simp at e
  | (g, x) :: ds, (g', v) :: vs, h, e => by
    obtain ⟨h1, h2, h3⟩ := h
    have h1' : g = g' := h1
    subst h1'
    rw [List.lookup_cons] at e
    rw [List.lookup_cons]
    cases q : (f == g) with
    | true =>
      rw [q] at e
      have e' : x = d := Option.some.inj e
      subst e'
      exact ⟨v, rfl, h2⟩
    | false =>
      rw [q] at e
      exact FldH.look h3 e
  | [], _ :: _, h, _ => h.elim
  | _ :: _, [], h, _ => h.elim
theorem FldH.lookN {H : Hp} {f : Str} : ∀ {ds : List (Str × Dn)} {vs : List (Str × V)}, FldH H ds vs → ds.lookup f = none → vs.lookup f = none
  | [], [], _, _ => rfl
  | (g, x) :: ds, (g', v) :: vs, h, e => by
    obtain ⟨h1, h2, h3⟩ := h
    have h1' : g = g' := h1
    subst h1'
    rw [List.lookup_cons] at e
    rw [List.lookup_cons]
    cases q : (f == g) with
    | true =>
      rw [q] at e
      cases e
    | false =>
      rw [q] at e
      exact FldH.lookN h3 e
  | [], _ :: _, h, _ => h.elim
  | _ :: _, [], h, _ => h.elim
def putD (f : Str) (v : Dn) : List (Str × Dn) → List (Str × Dn)
  | [] => [(f, v)]
  | (g, x) :: r => if g = f then (g, v) :: r else (g, x) :: putD f v r
theorem FldH.put {H : Hp} {f : Str} {d : Dn} {v : V} (hd : d.holds H v) : ∀ {ds : List (Str × Dn)} {vs : List (Str × V)}, FldH H ds vs → FldH H (putD f d ds) (putF f v vs)
  | [], [], _ => ⟨rfl, hd, trivial⟩
  | (g, x) :: ds, (g', w) :: vs, h => by
    obtain ⟨h1, h2, h3⟩ := h
    have h1' : g = g' := h1
    subst h1'
    show FldH H (if g = f then (g, d) :: ds else (g, x) :: putD f d ds) (if g = f then (g, v) :: vs else (g, w) :: putF f v vs)
    by_cases e : g = f
    · rw [if_pos e, if_pos e]
      exact ⟨rfl, hd, h3⟩
    · rw [if_neg e, if_neg e]
      exact ⟨rfl, h2, FldH.put hd h3⟩
  | [], _ :: _, h => h.elim
  | _ :: _, [], h => h.elim
theorem putD_nil (f : Str) (v : Dn) : putD f v [] = [(f, v)] := rfl
theorem putD_eq {f g : Str} (v x : Dn) (r : List (Str × Dn)) (h : g = f) : putD f v ((g, x) :: r) = (g, v) :: r := by
  show (if g = f then _ else _) = _
  rw [if_pos h]
theorem putD_ne {f g : Str} (v x : Dn) (r : List (Str × Dn)) (h : ¬ g = f) : putD f v ((g, x) :: r) = (g, x) :: putD f v r := by
  show (if g = f then _ else _) = _
  rw [if_neg h]
/-- an instance of the class at C -/
def PO (C : Addr) (fs : List (Str × Dn)) : Dn := ⟨fun H v => ∃ a dx vs, v = .ref a ∧ H a = some (.ins C dx vs) ∧ FldH H fs vs, fun e ⟨a, dx, vs, h1, h2, h3⟩ => ⟨a, dx, vs, h1, e _ _ h2, h3.mono e⟩⟩
/-- not None -/
theorem pt_non {K : PySem.W.Frag} {ds : List Dn} {H : Hp} {v : V} (h : (PT K ds).holds H v) : decide (v = .non) = false := by
  obtain ⟨a, vs, e, _⟩ := h
  subst e
  rfl
theorem pl_non {ds : List Dn} {H : Hp} {v : V} (h : (PL ds).holds H v) : decide (v = .non) = false := by
  obtain ⟨a, vs, e, _⟩ := h
  subst e
  rfl
theorem po_non {C : Addr} {fs : List (Str × Dn)} {H : Hp} {v : V} (h : (PO C fs).holds H v) : decide (v = .non) = false := by
  obtain ⟨a, dx, vs, e, _⟩ := h
  subst e
  rfl
theorem pi_non {i : Int} {H : Hp} {v : V} (h : (PI i).holds H v) : decide (v = .non) = false := by
  have e : v = .int i := h
  subst e
  rfl
theorem ps_non {x : Str} {H : Hp} {v : V} (h : (PS x).holds H v) : decide (v = .non) = false := by
  have e : v = .str x := h
  subst e
  rfl
theorem pn_non {H : Hp} {v : V} (h : PN.holds H v) : decide (v = .non) = true := by
  have e : v = .non := h
  subst e
  rfl

/-! ### growth -/
structure Grow (H0 H H0' H' : Hp) : Prop where
  a : Same H0 H0'
  b : Same H0' H'
  c : Same H H'
  d : ∀ x, H0 x = none → H0' x ≠ none → H x = none
theorem Grow.refl {H0 H : Hp} (s : Same H0 H) : Grow H0 H H0 H := ⟨Same.refl _, s, Same.refl _, fun x h k => absurd h k⟩
theorem Grow.trans {H0 H H1 H' H2 H'' : Hp} (g : Grow H0 H H1 H') (k : Grow H1 H' H2 H'') : Grow H0 H H2 H'' :=
  ⟨g.a.trans k.a, k.b, g.c.trans k.c, fun x h n => by
    cases q : H1 x with
    | none => exact g.c.free (k.d x q n)
    | some o => exact g.d x h (by rw [q]; exact fun z => nomatch z)⟩
/-- a new object, at once visible -/
theorem same_new {H : Hp} {p : Addr} {o : HO} (h : H p = none) : Same H (upd H p o) := fun a u e => by
  rw [upd_ne (ne_of_none e h)]
  exact e
theorem same_up {H0 H : Hp} {p : Addr} {o : HO} (s : Same H0 H) : Same (upd H0 p o) (upd H p o) := fun a u e => by
  by_cases h : a = p
  · subst h
    rw [upd_same] at e ⊢
    exact e
  · rw [upd_ne h] at e ⊢
    exact s _ _ e
theorem Grow.new {H0 H : Hp} {p : Addr} {o : HO} (s : Same H0 H) (h : H p = none) : Grow H0 H (upd H0 p o) (upd H p o) :=
  ⟨same_new (s.free h), same_up s, same_new h, fun x h0 n => by
    by_cases e : x = p
    · rw [e]
      exact h
    · rw [upd_ne e] at n
      exact absurd h0 n⟩

/-! ### contexts -/
structure Sl (H0 : Hp) (G : List (Option Dn)) (s : L2.St) : Prop where
  len : G.length = s.length
  at_ : ∀ (i : Nat) (d : Dn), G[i]? = some (some d) → ∃ v, s[i]? = some (some v) ∧ d.holds H0 v
theorem Sl.mono {H0 H1 : Hp} {G : List (Option Dn)} {s : L2.St} (e : Same H0 H1) (h : Sl H0 G s) : Sl H1 G s := ⟨h.len, fun i d k => by
  obtain ⟨v, h1, h2⟩ := h.at_ i d k
  exact ⟨v, h1, d.mono e h2⟩⟩
theorem Sl.set {H0 : Hp} {G : List (Option Dn)} {s : L2.St} {i : Nat} {d : Dn} {v : V} (h : Sl H0 G s) (hd : d.holds H0 v) : Sl H0 (G.set i (some d)) (s.set i (some v)) := ⟨by rw [List.length_set, List.length_set]; exact h.len, fun j e k => by
  by_cases hj : i = j
  · subst hj
    have hi : i < G.length := by
      have q := (List.getElem?_eq_some_iff.mp k).1
      rwa [List.length_set] at q
    rw [List.getElem?_set_self hi] at k
    have e' : d = e := Option.some.inj (Option.some.inj k)
    subst e'
    exact ⟨v, List.getElem?_set_self (by rw [← h.len]; exact hi), hd⟩
  · rw [List.getElem?_set_ne hj] at k
    obtain ⟨w, h1, h2⟩ := h.at_ j e k
    exact ⟨w, by rw [List.getElem?_set_ne hj]; exact h1, h2⟩⟩
/-- forget slots -/
def wipeD (G : List (Option Dn)) : List Nat → List (Option Dn)
  | [] => G
  | v :: vs => (wipeD G vs).set v none
theorem Sl.unset {H0 : Hp} {G : List (Option Dn)} {s : L2.St} {i : Nat} (h : Sl H0 G s) (u : Option V) : Sl H0 (G.set i none) (s.set i u) := ⟨by rw [List.length_set, List.length_set]; exact h.len, fun j e k => by
  by_cases hj : i = j
  · subst hj
    have hi : i < G.length := by
      have q := (List.getElem?_eq_some_iff.mp k).1
      rwa [List.length_set] at q
    rw [List.getElem?_set_self hi] at k
    exact nomatch k
  · rw [List.getElem?_set_ne hj] at k
    obtain ⟨w, h1, h2⟩ := h.at_ j e k
    exact ⟨w, by rw [List.getElem?_set_ne hj]; exact h1, h2⟩⟩
theorem Sl.wipe {H0 : Hp} {G : List (Option Dn)} {s : L2.St} (h : Sl H0 G s) : ∀ vs : List Nat, Sl H0 (wipeD G vs) (L2.wipe s vs)
  | [] => h
  | v :: vs => (Sl.wipe h vs).unset none

/-! ### expressions -/
abbrev Cn := List (Option Dn)
def EvG (te : TE) (G : Cn) (d : Dn) : Prop := ∀ (s : L2.St) (H0 H : Hp), Same H0 H → Sl H0 G s → ∀ Q : VK, (∀ v H0' H', Grow H0 H H0' H' → d.holds H0' v → Q v H') → te s H Q
def EvT (tt : TT) (G : Cn) (b : Bool) : Prop := ∀ (s : L2.St) (H0 H : Hp), Same H0 H → Sl H0 G s → ∀ Q : Bool → Hp → Prop, (∀ H0' H', Grow H0 H H0' H' → Q b H') → tt s H Q
def EvA (ta : TA) (G : Cn) (ds : List Dn) : Prop := ∀ (s : L2.St) (H0 H : Hp), Same H0 H → Sl H0 G s → ∀ Q : List V → Hp → Prop, (∀ vs H0' H', Grow H0 H H0' H' → AllH H0' ds vs → Q vs H') → ta s H Q
/-- by values -/
def R2G (r : R2) (a b d : Dn) : Prop := ∀ (x y : V) (H0 H : Hp), Same H0 H → a.holds H0 x → b.holds H0 y → ∀ Q : VK, (∀ v H0' H', Grow H0 H H0' H' → d.holds H0' v → Q v H') → r x y H Q
def R1G (r : V → Hp → VK → Prop) (a d : Dn) : Prop := ∀ (x : V) (H0 H : Hp), Same H0 H → a.holds H0 x → ∀ Q : VK, (∀ v H0' H', Grow H0 H H0' H' → d.holds H0' v → Q v H') → r x H Q
def RAG (r : List V → Hp → VK → Prop) (ds : List Dn) (d : Dn) : Prop := ∀ (xs : List V) (H0 H : Hp), Same H0 H → AllH H0 ds xs → ∀ Q : VK, (∀ v H0' H', Grow H0 H H0' H' → d.holds H0' v → Q v H') → r xs H Q
def SpG (sp : Sp) (ds : List Dn) (d : Dn) : Prop := ∀ (xs : List V) (H0 H : Hp) (E : XK), Same H0 H → AllH H0 ds xs → ∀ Q : VK, (∀ v H0' H', Grow H0 H H0' H' → d.holds H0' v → Q v H') → sp xs H Q E
section
variable {K : PySem.W.Frag} {G : Cn} {ta tb tc te : TE} {tt tu : TT} {a b c d : Dn}
theorem EvG.at_ (h : EvG te G d) {s : L2.St} {H0 H : Hp} (sm : Same H0 H) (sl : Sl H0 G s) {Q : VK} (k : ∀ v H0' H', Grow H0 H H0' H' → Sl H0' G s → d.holds H0' v → Q v H') : te s H Q :=
  h s H0 H sm sl Q fun v H0' H' g hv => k v H0' H' g (sl.mono g.a) hv
theorem EvG.is {d' : Dn} (h : EvG te G d) (e : d = d') : EvG te G d' := e ▸ h
theorem EvT.is {b b' : Bool} (h : EvT tt G b) (e : b = b') : EvT tt G b' := e ▸ h
theorem EvG.imp {d' : Dn} (h : EvG te G d) (e : ∀ H v, d.holds H v → d'.holds H v) : EvG te G d' := fun s H0 H sm sl Q k => h s H0 H sm sl Q fun v H0' H' g hv => k v H0' H' g (e _ _ hv)
theorem g_var {i : Nat} (h : G[i]? = some (some d)) : EvG (tVar i) G d := fun s H0 H sm sl Q k => by
  obtain ⟨v, h1, h2⟩ := sl.at_ i d h
  exact ⟨v, h1, k v H0 H (.refl sm) h2⟩
theorem g_c {x : V} : EvG (tC x) G (PV x) := fun s H0 H sm sl Q k => k x H0 H (.refl sm) rfl
theorem g_op {r : R2} (ha : EvG ta G a) (hb : EvG tb G b) (hr : R2G r a b d) : EvG (tOp r ta tb) G d := fun s H0 H sm sl Q k =>
  ha.at_ sm sl fun x H1 H' g1 sl1 hx => hb.at_ g1.b sl1 fun y H2 H'' g2 sl2 hy => hr x y H2 H'' g2.b (a.mono g2.a hx) hy Q fun v H3 H3' g3 hv => k v H3 H3' ((g1.trans g2).trans g3) hv
theorem g_un {r : V → Hp → VK → Prop} (ha : EvG ta G a) (hr : R1G r a d) : EvG (tUn r ta) G d := fun s H0 H sm sl Q k =>
  ha.at_ sm sl fun x H1 H' g1 sl1 hx => hr x H1 H' g1.b hx Q fun v H3 H3' g3 hv => k v H3 H3' (g1.trans g3) hv
theorem r_I0 {f : Int → Int → V} {i j : Int} : R2G (rI0 f) (PI i) (PI j) (PV (f i j)) := fun x y H0 H sm hx hy Q k => ⟨i, j, hx, hy, k _ H0 H (.refl sm) rfl⟩
theorem r_I {C : Int → Int → Prop} {f : Int → Int → V} {i j : Int} (hc : C i j) : R2G (rI C f) (PI i) (PI j) (PV (f i j)) := fun x y H0 H sm hx hy Q k => ⟨i, j, hx, hy, hc, k _ H0 H (.refl sm) rfl⟩
theorem r_U {f : Int → V} {i : Int} : R1G (rU f) (PI i) (PV (f i)) := fun x H0 H sm hx Q k => ⟨i, hx, k _ H0 H (.refl sm) rfl⟩
theorem r_eq {x y : V} (h : scal x y = true) : R2G rEq (PV x) (PV y) (PB (decide (x = y))) := fun x' y' H0 H sm hx hy Q k => by
  have e1 : x' = x := hx
  have e2 : y' = y := hy
  subst e1 e2
  exact ⟨h, k _ H0 H (.refl sm) rfl⟩
theorem r_ne {x y : V} (h : scal x y = true) : R2G rNe (PV x) (PV y) (PB (!decide (x = y))) := fun x' y' H0 H sm hx hy Q k => by
  have e1 : x' = x := hx
  have e2 : y' = y := hy
  subst e1 e2
  exact ⟨h, k _ H0 H (.refl sm) rfl⟩
/-- two ints -/
theorem g_I0 {f : Int → Int → V} {i j : Int} (ha : EvG ta G (PI i)) (hb : EvG tb G (PI j)) : EvG (tOp (rI0 f) ta tb) G (PV (f i j)) := g_op ha hb r_I0
theorem g_I {C : Int → Int → Prop} {f : Int → Int → V} {i j : Int} (ha : EvG ta G (PI i)) (hb : EvG tb G (PI j)) (hc : C i j) : EvG (tOp (rI C f) ta tb) G (PV (f i j)) := g_op ha hb (r_I hc)
theorem g_U {f : Int → V} {i : Int} (ha : EvG ta G (PI i)) : EvG (tUn (rU f) ta) G (PV (f i)) := g_un ha r_U
/-- is None, is not None -/
theorem g_isN {k : Bool} (ha : EvG ta G a) (h : ∀ H v, a.holds H v → decide (v = .non) = k) : EvG (tOp (fun x y H Q => y = V.non ∧ Q (.bl (decide (x = V.non))) H) ta (tC .non)) G (PB k) :=
  g_op ha g_c fun x y H0 H sm hx hy Q q => ⟨hy, q _ H0 H (.refl sm) (show V.bl (decide (x = .non)) = V.bl k by rw [h _ _ hx])⟩
theorem g_notN {k : Bool} (ha : EvG ta G a) (h : ∀ H v, a.holds H v → decide (v = .non) = k) : EvG (tOp (fun x y H Q => y = V.non ∧ Q (.bl (!decide (x = V.non))) H) ta (tC .non)) G (PB (!k)) :=
  g_op ha g_c fun x y H0 H sm hx hy Q q => ⟨hy, q _ H0 H (.refl sm) (show V.bl (!decide (x = .non)) = V.bl (!k) by rw [h _ _ hx])⟩
/-- t[i], xs[i] -/
theorem r_ixT {ds : List Dn} {i : Int} (j : Nat) (e : i = (j : Int)) (h : ds[j]? = some d) : R2G (rIxT K) (PT K ds) (PI i) d := fun x y H0 H sm ⟨p, vs, ex, hs, ha⟩ hy Q k => by
  obtain ⟨v, h1, h2⟩ := ha.get h
  exact ⟨p, vs, i, v, ex, hy, same_t sm hs, by rw [e]; exact atI_nat h1, k v H0 H (.refl sm) h2⟩
theorem r_ixL {ds : List Dn} {i : Int} (j : Nat) (e : i = (j : Int)) (h : ds[j]? = some d) : R2G (rIxL K) (PL ds) (PI i) d := fun x y H0 H sm ⟨p, vs, ex, hs, ha⟩ hy Q k => by
  obtain ⟨v, h1, h2⟩ := ha.get h
  exact ⟨p, vs, i, v, ex, hy, SqL.of (sm _ _ hs), by rw [e]; exact atI_nat h1, k v H0 H (.refl sm) h2⟩
theorem g_ixT {ds : List Dn} {i : Int} (j : Nat) (ha : EvG ta G (PT K ds)) (hb : EvG tb G (PI i)) (e : i = (j : Int)) (h : ds[j]? = some d) : EvG (tOp (rIxT K) ta tb) G d := g_op ha hb (r_ixT j e h)
theorem g_ixL {ds : List Dn} {i : Int} (j : Nat) (ha : EvG ta G (PL ds)) (hb : EvG tb G (PI i)) (e : i = (j : Int)) (h : ds[j]? = some d) : EvG (tOp (rIxL K) ta tb) G d := g_op ha hb (r_ixL j e h)
/-- arguments -/
theorem a_nil : EvA tNil G [] := fun s H0 H sm sl Q k => k [] H0 H (.refl sm) trivial
theorem a_cons {tr : TA} {ds : List Dn} (h : EvG ta G d) (hr : EvA tr G ds) : EvA (tCons ta tr) G (d :: ds) := fun s H0 H sm sl Q k =>
  h.at_ sm sl fun x H1 H' g1 sl1 hx => hr s H1 H' g1.b sl1 _ fun vs H2 H'' g2 hvs => k _ H2 H'' (g1.trans g2) ⟨d.mono g2.a hx, hvs⟩
theorem EvA.is {t : TA} {ds ds' : List Dn} (h : EvA t G ds) (e : ds = ds') : EvA t G ds' := e ▸ h
theorem sz_of {n : Nat} (h : n ≤ 100000) : n ≤ sizeLine := Nat.le_trans h (by decide)
theorem sz_lt {n : Nat} (h : n < 100000) : n < sizeLine := Nat.lt_of_lt_of_le h (by decide)
/-- displays -/
theorem g_tup {t : TA} {ds : List Dn} (h : EvA t G ds) (hl : ds.length ≤ 100000 := by first | (show _ ≤ 100000; decide) | (simp only [List.length_cons, List.length_nil]; omega)) : EvG (tTup t) G (PT K ds) := fun s H0 H sm sl Q k =>
  h s H0 H sm sl _ fun vs H1 H' g1 hvs => ⟨sz_of (by rw [← hvs.len]; exact hl), fun p hp => k _ _ _ (g1.trans (.new g1.b hp)) ⟨p, vs, rfl, SqT.of upd_same, hvs.mono (same_new (g1.b.free hp))⟩⟩
theorem g_lst {t : TA} {ds : List Dn} (h : EvA t G ds) (hl : ds.length ≤ 100000 := by first | (show _ ≤ 100000; decide) | (simp only [List.length_cons, List.length_nil]; omega)) : EvG (tLst t) G (PL ds) := fun s H0 H sm sl Q k =>
  h s H0 H sm sl _ fun vs H1 H' g1 hvs => ⟨sz_of (by rw [← hvs.len]; exact hl), fun p hp => k _ _ _ (g1.trans (.new g1.b hp)) ⟨p, vs, rfl, upd_same, hvs.mono (same_new (g1.b.free hp))⟩⟩
/-- a field -/
theorem g_fld {C : Addr} {fs : List (Str × Dn)} {f : Str} (h : EvG ta G (PO C fs)) (hc : Cls K C) (hn : NoAttr K C f) (hl : fs.lookup f = some d) : EvG (tFld K ta f) G d := fun s H0 H sm sl Q k =>
  h s H0 H sm sl _ fun v H1 H' g1 ⟨x, dx, vs, e, ho, hf⟩ => by
    obtain ⟨u, h1, h2⟩ := hf.look hl
    exact ⟨x, C, dx, vs, u, e, g1.b _ _ ho, hc, hn, h1, k u H1 H' g1 h2⟩
/-- calls -/
theorem g_cb {r : List V → Hp → VK → Prop} {t : TA} {ds : List Dn} (h : EvA t G ds) (hr : RAG r ds d) : EvG (tCB r t) G d := fun s H0 H sm sl Q k =>
  h s H0 H sm sl _ fun vs H1 H' g1 hvs => hr vs H1 H' g1.b hvs Q fun v H2 H'' g2 hv => k v H2 H'' (g1.trans g2) hv
theorem g_call {sp : Sp} {E : XK} {t : TA} {ds : List Dn} {dvs : List V} (h : EvA t G ds) (hs : SpG sp (ds ++ dvs.map PV) d) : EvG (tCall sp dvs E t) G d := fun s H0 H sm sl Q k =>
  h s H0 H sm sl _ fun vs H1 H' g1 hvs => hs (vs ++ dvs) H1 H' E g1.b (hvs.app AllH.vp) Q fun v H2 H'' g2 hv => k v H2 H'' (g1.trans g2) hv
/-- a def's promise: from data to a datum -/
def spF {A : Type} (args : A → List Dn) (pre : A → Prop) (res : A → Dn) : Sp := fun vs H Q _ => ∃ H0 a, Same H0 H ∧ pre a ∧ AllH H0 (args a) vs ∧ ∀ v H0' H', Grow H0 H H0' H' → (res a).holds H0' v → Q v H'
theorem spF_g {A : Type} {args : A → List Dn} {pre : A → Prop} {res : A → Dn} {x : A} (hp : pre x) : SpG (spF args pre res) (args x) (res x) := fun vs H0 H E sm h Q k => ⟨H0, x, sm, hp, h, k⟩
theorem g_callF {A : Type} {args : A → List Dn} {pre : A → Prop} {res : A → Dn} {E : XK} {t : TA} (x : A) (hp : pre x) (h : EvA t G (args x)) : EvG (tCall (spF args pre res) [] E t) G (res x) := fun s H0 H sm sl Q k =>
  h s H0 H sm sl _ fun vs H1 H' g1 hvs => by
    show spF args pre res (vs ++ []) H' Q E
    rw [List.append_nil]
    exact ⟨H1, x, g1.b, hp, hvs, fun v H2 H'' g2 hv => k v H2 H'' (g1.trans g2) hv⟩
/-! ### tests -/
theorem t_B {k : Bool} (h : EvG ta G (PB k)) : EvT (tB ta) G k := fun s H0 H sm sl Q q => h s H0 H sm sl _ fun v H1 H' g hv => ⟨k, hv, q H1 H' g⟩
theorem t_test {k : Bool} (h : EvG ta G (PB k)) : EvT (tTest ta) G k := fun s H0 H sm sl Q q => h s H0 H sm sl _ fun v H1 H' g hv => ⟨k, hv, q H1 H' g⟩
theorem t_and {j k : Bool} (h1 : EvT tt G j) (h2 : j = true → EvT tu G k) : EvT (tAnd tt tu) G (j && k) := fun s H0 H sm sl Q q => h1 s H0 H sm sl _ fun H1 H' g => by
  cases j with
  | true => exact h2 rfl s H1 H' g.b (sl.mono g.a) Q fun H2 H'' g2 => q H2 H'' (g.trans g2)
  | false => exact q H1 H' g
theorem t_or {j k : Bool} (h1 : EvT tt G j) (h2 : j = false → EvT tu G k) : EvT (tOr tt tu) G (j || k) := fun s H0 H sm sl Q q => h1 s H0 H sm sl _ fun H1 H' g => by
  cases j with
  | false => exact h2 rfl s H1 H' g.b (sl.mono g.a) Q fun H2 H'' g2 => q H2 H'' (g.trans g2)
  | true => exact q H1 H' g
theorem t_not {j : Bool} (h1 : EvT tt G j) : EvT (tNot tt) G (!j) := fun s H0 H sm sl Q q => h1 s H0 H sm sl _ fun H1 H' g => q H1 H' g
theorem g_andV {j k : Bool} (h1 : EvG ta G (PB j)) (h2 : j = true → EvG tb G (PB k)) : EvG (tAndV ta tb) G (PB (j && k)) := fun s H0 H sm sl Q q => h1 s H0 H sm sl _ fun v H1 H' g hv => ⟨j, hv, by
  cases j with
  | true => exact h2 rfl s H1 H' g.b (sl.mono g.a) Q fun v2 H2 H'' g2 hv2 => q v2 H2 H'' (g.trans g2) hv2
  | false => exact q _ H1 H' g rfl⟩
theorem g_orV {j k : Bool} (h1 : EvG ta G (PB j)) (h2 : j = false → EvG tb G (PB k)) : EvG (tOrV ta tb) G (PB (j || k)) := fun s H0 H sm sl Q q => h1 s H0 H sm sl _ fun v H1 H' g hv => ⟨j, hv, by
  cases j with
  | false => exact h2 rfl s H1 H' g.b (sl.mono g.a) Q fun v2 H2 H'' g2 hv2 => q v2 H2 H'' (g.trans g2) hv2
  | true => exact q _ H1 H' g rfl⟩
theorem g_if {j : Bool} (h : EvT tt G j) (h1 : j = true → EvG ta G d) (h2 : j = false → EvG tb G d) : EvG (tIf tt ta tb) G d := fun s H0 H sm sl Q q => h s H0 H sm sl _ fun H1 H' g => by
  cases j with
  | true => exact h1 rfl s H1 H' g.b (sl.mono g.a) Q fun v2 H2 H'' g2 hv2 => q v2 H2 H'' (g.trans g2) hv2
  | false => exact h2 rfl s H1 H' g.b (sl.mono g.a) Q fun v2 H2 H'' g2 hv2 => q v2 H2 H'' (g.trans g2) hv2
/-- a op b op c -/
theorem g_chain {r r' : R2} {j k : Bool} (ha : EvG ta G a) (hb : EvG tb G b) (hr : R2G r a b (PB j)) (hc : j = true → EvG tc G c) (hr' : R2G r' b c (PB k)) : EvG (tChain r r' ta tb tc) G (PB (j && k)) := fun s H0 H sm sl Q q =>
  ha.at_ sm sl fun x H1 H' g1 sl1 hx => hb.at_ g1.b sl1 fun y H2 H'' g2 sl2 hy => hr x y H2 H'' g2.b (a.mono g2.a hx) hy _ fun v H3 H3' g3 hv => ⟨j, hv, by
    cases j with
    | true => exact (hc rfl).at_ g3.b (sl2.mono g3.a) fun z H4 H4' g4 sl4 hz => hr' y z H4 H4' g4.b (b.mono (g3.a.trans g4.a) hy) hz Q fun v5 H5 H5' g5 hv5 => q v5 H5 H5' ((((g1.trans g2).trans g3).trans g4).trans g5) hv5
    | false => exact q _ H3 H3' ((g1.trans g2).trans g3) rfl⟩
end
end K9
set_option Elab.async false
set_option linter.all false
set_option maxRecDepth 100000
set_option maxHeartbeats 4000000
/-! K9B: statements over the denotations. -/
namespace K9
open PySem PySem.Spec PyProof.Rows L2

/-! ### one object of ours that may still change: not in the visible heap -/
structure Ow where
  a : Addr
  ok : Hp → HO → Prop
  mono : ∀ {H H' : Hp} {o : HO}, Same H H' → ok H o → ok H' o
def OwOk (W : Option Ow) (B H0 H : Hp) : Prop := match W with
  | none => True
  | some w => H0 w.a = none ∧ B w.a = none ∧ ∃ o, H w.a = some o ∧ w.ok H0 o
/-- a list that grows; an instance whose fields are set -/
def owL (l : Addr) (ds : List Dn) : Ow := ⟨l, fun H o => ∃ vs, o = .lst vs ∧ AllH H ds vs, fun e ⟨vs, h1, h2⟩ => ⟨vs, h1, h2.mono e⟩⟩
def owI (p C dx : Addr) (fs : List (Str × Dn)) : Ow := ⟨p, fun H o => ∃ vs, o = .ins C dx vs ∧ FldH H fs vs, fun e ⟨vs, h1, h2⟩ => ⟨vs, h1, h2.mono e⟩⟩
theorem OwOk.grow {W : Option Ow} {B H0 H H0' H' : Hp} (h : OwOk W B H0 H) (g : Grow H0 H H0' H') : OwOk W B H0' H' := by
  cases W with
  | none => trivial
  | some w =>
    obtain ⟨h1, h2, o, h3, h4⟩ := h
    refine ⟨?_, h2, o, g.c _ _ h3, w.mono g.a h4⟩
    cases q : H0' w.a with
    | none => rfl
    | some u =>
      have z := g.d w.a h1 (by rw [q]; exact fun z => nomatch z)
      rw [h3] at z
      cases z
/-- where a statement stands: G what the slots stand for, W our own object; since the entry (B0, B) the heaps have but grown -/
structure OkS (B0 B : Hp) (G : Cn) (W : Option Ow) (s : L2.St) (H : Hp) : Prop where
  ex : ∃ H0, Grow B0 B H0 H ∧ Sl H0 G s ∧ OwOk W B H0 H
section
variable {K : PySem.W.Frag} {B0 B : Hp} {G : Cn} {W : Option Ow} {s : L2.St} {H : Hp} {D : Ends} {te tl tv ta : TE} {tt : TT} {d : Dn} {tu tw tb : TS}
theorem OkS.start {G : Cn} {s : L2.St} {H0 H : Hp} (sm : Same H0 H) (sl : Sl H0 G s) : OkS H0 H G none s H := ⟨H0, .refl sm, sl, trivial⟩
theorem OkS.up {C0 C : Hp} {G' : Cn} {W' : Option Ow} {s' : L2.St} {H' : Hp} (g : Grow B0 B C0 C) (h : OkS C0 C G' W' s' H') : OkS B0 B G' W' s' H' := by
  obtain ⟨H0, g1, sl, ow⟩ := h.ex
  refine ⟨H0, g.trans g1, sl, ?_⟩
  cases W' with
  | none => trivial
  | some w =>
    obtain ⟨h1, h2, h3⟩ := ow
    exact ⟨h1, g.c.free h2, h3⟩
theorem OkS.ev {Q : VK} (h : OkS B0 B G W s H) (ev : EvG te G d) (k : ∀ v H0' H', Grow B0 B H0' H' → Sl H0' G s → OwOk W B H0' H' → d.holds H0' v → Q v H') : te s H Q := by
  obtain ⟨H0, g1, sl, ow⟩ := h.ex
  exact ev.at_ g1.b sl fun v H0' H' g sl' hv => k v H0' H' (g1.trans g) sl' (ow.grow g) hv
theorem OkS.evT {b : Bool} {Q : Bool → Hp → Prop} (h : OkS B0 B G W s H) (ev : EvT tt G b) (k : ∀ H', OkS B0 B G W s H' → Q b H') : tt s H Q := by
  obtain ⟨H0, g1, sl, ow⟩ := h.ex
  exact ev s H0 H g1.b sl Q fun H0' H' g => k H' ⟨H0', g1.trans g, sl.mono g.a, ow.grow g⟩
theorem sq {t u : TS} (h : t { D with nx := u D } s H) : tSeq t u D s H := h
theorem st_next (h : D.nx s H) : tNext D s H := h
theorem st_asg {i : Nat} (h : OkS B0 B G W s H) (ev : EvG te G d) (k : ∀ s' H', OkS B0 B (G.set i (some d)) W s' H' → D.nx s' H') : tAsg te (gName i) D s H :=
  h.ev ev fun v H0' H' g sl ow hv => k _ _ ⟨H0', g, sl.set hv, ow⟩
theorem st_drop (h : OkS B0 B G W s H) (ev : EvG te G d) (k : ∀ H', OkS B0 B G W s H' → D.nx s H') : tDrop te D s H :=
  h.ev ev fun v H0' H' g sl ow hv => k _ ⟨H0', g, sl, ow⟩
theorem st_ret (h : OkS B0 B G W s H) (ev : EvG te G d) (k : ∀ v H0' H', Grow B0 B H0' H' → d.holds H0' v → D.rt v H') : tRet te D s H :=
  h.ev ev fun v H0' H' g sl ow hv => k v H0' H' g hv
theorem st_if {b : Bool} (h : OkS B0 B G W s H) (ev : EvT tt G b) (h1 : b = true → ∀ H', OkS B0 B G W s H' → tu D s H') (h2 : b = false → ∀ H', OkS B0 B G W s H' → tw D s H') : tIfS tt tu tw D s H :=
  h.evT ev fun H' ok => by
    cases b with
    | true => exact h1 rfl H' ok
    | false => exact h2 rfl H' ok
/-- x += e, ints -/
theorem st_augI {i : Nat} {f : Int → Int → Int} {a b : Int} (h : OkS B0 B G W s H) (hx : G[i]? = some (some (PI a))) (ev : EvG te G (PI b)) (k : ∀ s' H', OkS B0 B (G.set i (some (PI (f a b)))) W s' H' → D.nx s' H') : tAug i te (ipI f) D s H := by
  obtain ⟨H0, g1, sl, ow⟩ := h.ex
  obtain ⟨v, e, hv⟩ := sl.at_ i _ hx
  refine ⟨v, e, ev.at_ g1.b sl fun u H0' H' g sl' hu => ⟨a, b, hv, hu, k _ _ ⟨H0', g1.trans g, sl'.set (d := PI (f a b)) rfl, ow.grow g⟩⟩⟩
/-! ### targets -/
def TgG (g : TG) (G : Cn) (d : Dn) (G' : Cn) : Prop := ∀ (s : L2.St) (H0 H : Hp) (v : V), Same H0 H → Sl H0 G s → d.holds H0 v → ∀ Q : L2.St → Hp → Prop, (∀ s', Sl H0 G' s' → Q s' H) → g v s H Q
def TgsG (g : TGs) (G : Cn) (ds : List Dn) (G' : Cn) : Prop := ∀ (s : L2.St) (H0 H : Hp) (vs : List V), Same H0 H → Sl H0 G s → AllH H0 ds vs → ∀ Q : L2.St → Hp → Prop, (∀ s', Sl H0 G' s' → Q s' H) → g vs s H Q
theorem tg_name {i : Nat} : TgG (gName i) G d (G.set i (some d)) := fun s H0 H v sm sl hv Q k => k _ (sl.set hv)
theorem tgs_nil : TgsG gNil G [] G := fun s H0 H vs sm sl hv Q k => by
  cases vs with
  | nil => exact ⟨rfl, k s sl⟩
  | cons v vs => exact hv.elim
theorem tgs_cons {g : TG} {gs : TGs} {G1 G2 : Cn} {ds : List Dn} (h : TgG g G d G1) (hs : TgsG gs G1 ds G2) : TgsG (gCons g gs) G (d :: ds) G2 := fun s H0 H vs sm sl hv Q k => by
  cases vs with
  | nil => exact hv.elim
  | cons v vs => exact ⟨v, vs, rfl, h s H0 H v sm sl hv.1 _ fun s' sl' => hs s' H0 H vs sm sl' hv.2 Q k⟩
theorem tg_tup {gs : TGs} {n : Nat} {ds : List Dn} {G' : Cn} (h : TgsG gs G ds G') (hn : ds.length = n := by rfl) : TgG (gTup K n gs) G (PT K ds) G' := fun s H0 H v sm sl ⟨a, vs, e, hs, hv⟩ Q k =>
  ⟨a, vs, e, same_t sm hs, by rw [← hv.len]; exact hn, h s H0 H vs sm sl hv Q k⟩
theorem st_asgT {g : TG} {G' : Cn} (h : OkS B0 B G W s H) (ev : EvG te G d) (tg : TgG g G d G') (k : ∀ s' H', OkS B0 B G' W s' H' → D.nx s' H') : tAsg te g D s H :=
  h.ev ev fun v H0' H' gr sl ow hv => tg _ _ _ _ gr.b sl hv _ fun s' sl' => k _ _ ⟨H0', gr, sl', ow⟩
/-! ### our own list -/
theorem st_own {i : Nat} {t : TA} {ds : List Dn} (h : OkS B0 B G none s H) (ev : EvA t G ds) (hl : ds.length ≤ 100000 := by first | (show _ ≤ 100000; decide) | (simp only [List.length_cons, List.length_nil]; omega))
    (k : ∀ l s' H', OkS B0 B (G.set i (some (PV (.ref l)))) (some (owL l ds)) s' H' → D.nx s' H') : tAsg (tLst t) (gName i) D s H := by
  obtain ⟨H0, g1, sl, ow⟩ := h.ex
  refine ev s H0 H g1.b sl _ fun vs H0' H' g hvs => ⟨sz_of (by rw [← hvs.len]; exact hl), fun p hp => ?_⟩
  have g2 := g1.trans g
  refine k p _ _ ⟨H0', ⟨g2.a, g2.b.trans (same_new hp), g2.c.trans (same_new hp), g2.d⟩, (sl.mono g.a).set (d := PV (.ref p)) rfl, ⟨g2.b.free hp, g2.c.free hp, _, upd_same, vs, rfl, hvs⟩⟩
/-- l.append(e) -/
theorem st_app {l : Addr} {ds : List Dn} (h : OkS B0 B G (some (owL l ds)) s H) (ho : EvG tl G (PV (.ref l))) (ev : EvG te G d) (hl : ds.length < 100000) (k : ∀ H', OkS B0 B G (some (owL l (ds ++ [d]))) s H' → D.nx s H') :
    tDrop (tBM K "list" rAppend tl (tCons te tNil)) D s H := by
  unfold tDrop tBM
  refine h.ev (te := tl) ho fun v H1 H' g sl ow hv => ?_
  have ev1 : v = .ref l := hv
  subst ev1
  obtain ⟨h1, h2, o, h3, vs, e, h4⟩ := id ow
  have e2 : o = .lst vs := e
  subst e2
  have h3' : H' l = some (.lst vs) := h3
  refine ⟨Or.inl ⟨rfl, vs, SqL.of h3'⟩, ?_⟩
  refine OkS.ev ⟨H1, g, sl, ow⟩ ev fun u H2 H'' g' sl' ow' hu => ?_
  obtain ⟨k1, k2, o', k3, vs', e', k4⟩ := ow'
  have e3 : o' = .lst vs' := e'
  subst e3
  have k1' : H2 l = none := k1
  have k2' : B l = none := k2
  have k3' : H'' l = some (.lst vs') := k3
  refine ⟨l, vs', u, rfl, rfl, k3', sz_lt (by rw [← k4.len]; exact hl), ?_⟩
  refine k _ ⟨H2, ⟨g'.a, fun a o e => ?_, fun a o e => ?_, g'.d⟩, sl', ⟨k1', k2', _, upd_same, vs' ++ [u], rfl, k4.app ⟨hu, trivial⟩⟩⟩
  · rw [upd_ne (ne_of_none e k1')]
    exact g'.b _ _ e
  · rw [upd_ne (ne_of_none e k2')]
    exact g'.c _ _ e
/-- it grows no more -/
theorem OkS.freeze {w : Ow} {i : Nat} (h : OkS B0 B G (some w) s H) (hi : G[i]? = some (some (PV (.ref w.a)))) (hd : ∀ (H0 : Hp) (o : HO), w.ok H0 o → H0 w.a = some o → d.holds H0 (.ref w.a)) : OkS B0 B (G.set i (some d)) none s H := by
  obtain ⟨H0, g1, sl, ow⟩ := h.ex
  obtain ⟨h1, h2, o, h3, h4⟩ := ow
  have sm : Same H0 (upd H0 w.a o) := same_new h1
  obtain ⟨v, e, hv⟩ := sl.at_ i _ hi
  have ev : v = .ref w.a := hv
  subst ev
  have hdd := hd (upd H0 w.a o) o (w.mono sm h4) upd_same
  refine ⟨upd H0 w.a o, ⟨g1.a.trans sm, fun a u q => ?_, g1.c, fun a ha hn => ?_⟩, ?_, trivial⟩
  · by_cases z : a = w.a
    · subst z
      rw [upd_same] at q
      rw [h3]
      exact q
    · rw [upd_ne z] at q
      exact g1.b _ _ q
  · by_cases z : a = w.a
    · rw [z]
      exact h2
    · rw [upd_ne z] at hn
      exact g1.d a ha hn
  · have sl2 := (sl.mono sm).set (i := i) (d := d) hdd
    have es : s.set i (some (.ref w.a)) = s := by
      have hlt : i < s.length := (List.getElem?_eq_some_iff.mp e).1
      have e2 := (List.getElem?_eq_some_iff.mp e).2
      rw [← e2]
      exact List.set_getElem_self hlt
    rw [es] at sl2
    exact sl2
theorem OkS.freezeL {l : Addr} {ds : List Dn} {i : Nat} (h : OkS B0 B G (some (owL l ds)) s H) (hi : G[i]? = some (some (PV (.ref l)))) : OkS B0 B (G.set i (some (PL ds))) none s H :=
  h.freeze (w := owL l ds) hi fun H0 o ⟨vs, e, ha⟩ hl => ⟨l, vs, rfl, by rw [← e]; exact hl, ha⟩
/-! ### loops -/
/-- the heap without our own object -/
def offW (W : Option Ow) (H : Hp) : Hp := match W with
  | none => H
  | some w => del H w.a
theorem del_of {H : Hp} {a b : Addr} {o : HO} (h : del H a b = some o) : b ≠ a ∧ H b = some o := by
  by_cases e : b = a
  · subst e
    rw [del_same] at h
    cases h
  · rw [del_ne e] at h
    exact ⟨e, h⟩
theorem off_same {W : Option Ow} {H : Hp} : Same (offW W H) H := fun a o e => by
  cases W with
  | none => exact e
  | some w => exact (del_of e).2
/-- a new entry within -/
theorem OkS.base {H0 : Hp} (g : Grow B0 B H0 H) (sl : Sl H0 G s) (ow : OwOk W B H0 H) : OkS H0 (offW W H) G W s H ∧ Grow B0 B H0 (offW W H) := by
  cases W with
  | none => exact ⟨⟨H0, .refl g.b, sl, trivial⟩, g⟩
  | some w =>
    obtain ⟨h1, h2, o, h3, h4⟩ := ow
    have s1 : Same H0 (del H w.a) := fun a o e => by
      rw [del_ne (ne_of_none e h1)]
      exact g.b _ _ e
    have s2 : Same B (del H w.a) := fun a o e => by
      rw [del_ne (ne_of_none e h2)]
      exact g.c _ _ e
    exact ⟨⟨H0, ⟨Same.refl _, g.b, off_same (W := some w), fun x h k => absurd h k⟩, sl, ⟨h1, del_same, o, h3, h4⟩⟩, ⟨g.a, s1, s2, g.d⟩⟩
theorem AllH.lt {H : Hp} {ds : List Dn} {vs : List V} (h : AllH H ds vs) {i : Nat} {v : V} (e : vs[i]? = some v) : i < ds.length := by
  rw [h.len]
  exact (List.getElem?_eq_some_iff.mp e).1
/-- for g in e: .., e a list | a tuple: Gs i, Ws i ahead of the i-th turn -/
theorem st_forL {g : TG} {ds : List Dn} (h : OkS B0 B G W s H) (ev : EvG te G (PL ds)) (Gs Gt : Nat → Cn) (Ws : Nat → Option Ow) (h0 : Gs 0 = G) (hw : Ws 0 = W)
    (tg : ∀ i d, ds[i]? = some d → TgG g (Gs i) d (Gt i))
    (body : ∀ C0 C, (∀ {G' W' s' H'}, OkS C0 C G' W' s' H' → OkS B0 B G' W' s' H') → ∀ i d, ds[i]? = some d → ∀ s' H', OkS C0 C (Gt i) (Ws i) s' H' → tb { D with nx := OkS C0 C (Gs (i + 1)) (Ws (i + 1)), ct := OkS C0 C (Gs (i + 1)) (Ws (i + 1)), bk := D.nx } s' H')
    (k : ∀ s' H', OkS B0 B (Gs ds.length) (Ws ds.length) s' H' → D.nx s' H') : tFor (iList K te) g tb D s H := by
  refine h.ev ev fun v H0 H1 gr sl ow ⟨a, vs, e, hl, ha⟩ => ?_
  obtain ⟨ok, gb⟩ := OkS.base gr sl ow
  have up : ∀ {G' W' s' H'}, OkS H0 (offW W H1) G' W' s' H' → OkS B0 B G' W' s' H' := fun q => OkS.up gb q
  have hl1 : SqL K H1 a vs := SqL.of (gr.b _ _ hl)
  refine ⟨a, e, ⟨vs, hl1⟩, for_list (K := K) (a := a) (xs := vs) (fun i s' H' => OkS H0 (offW W H1) (Gs i) (Ws i) s' H') (by rw [h0, hw]; exact ok) (fun i s' H' hi p => ?_) (fun i x s' H' hx p => ?_) (fun s' H' p => ?_)⟩
  · obtain ⟨H2, g2, _⟩ := p.ex
    exact SqL.of (g2.b _ _ (g2.a _ _ hl))
  · obtain ⟨d, hd, hdx⟩ := ha.at_ hx
    obtain ⟨H2, g2, sl2, ow2⟩ := p.ex
    exact tg i d hd s' H2 H' x g2.b sl2 (d.mono g2.a hdx) _ fun s'' sl'' => body H0 (offW W H1) up i d hd s'' H' ⟨H2, g2, sl'', ow2⟩
  · rw [← ha.len] at p
    exact k s' H' (up p)
theorem st_forT {g : TG} {ds : List Dn} (h : OkS B0 B G W s H) (ev : EvG te G (PT K ds)) (Gs Gt : Nat → Cn) (Ws : Nat → Option Ow) (h0 : Gs 0 = G) (hw : Ws 0 = W)
    (tg : ∀ i d, ds[i]? = some d → TgG g (Gs i) d (Gt i))
    (body : ∀ C0 C, (∀ {G' W' s' H'}, OkS C0 C G' W' s' H' → OkS B0 B G' W' s' H') → ∀ i d, ds[i]? = some d → ∀ s' H', OkS C0 C (Gt i) (Ws i) s' H' → tb { D with nx := OkS C0 C (Gs (i + 1)) (Ws (i + 1)), ct := OkS C0 C (Gs (i + 1)) (Ws (i + 1)), bk := D.nx } s' H')
    (k : ∀ s' H', OkS B0 B (Gs ds.length) (Ws ds.length) s' H' → D.nx s' H') : tFor (iTup K te) g tb D s H := by
  refine h.ev ev fun v H0 H1 gr sl ow ⟨a, vs, e, hl, ha⟩ => ?_
  obtain ⟨ok, gb⟩ := OkS.base gr sl ow
  have up : ∀ {G' W' s' H'}, OkS H0 (offW W H1) G' W' s' H' → OkS B0 B G' W' s' H' := fun q => OkS.up gb q
  have hl1 : SqT K H1 a vs := same_t gr.b hl
  refine ⟨a, e, ⟨vs, hl1⟩, for_tup (K := K) (a := a) (xs := vs) (fun i s' H' => OkS H0 (offW W H1) (Gs i) (Ws i) s' H') (by rw [h0, hw]; exact ok) (fun i s' H' hi p => ?_) (fun i x s' H' hx p => ?_) (fun s' H' p => ?_)⟩
  · obtain ⟨H2, g2, _⟩ := p.ex
    exact same_t (g2.a.trans g2.b) hl
  · obtain ⟨d, hd, hdx⟩ := ha.at_ hx
    obtain ⟨H2, g2, sl2, ow2⟩ := p.ex
    exact tg i d hd s' H2 H' x g2.b sl2 (d.mono g2.a hdx) _ fun s'' sl'' => body H0 (offW W H1) up i d hd s'' H' ⟨H2, g2, sl'', ow2⟩
  · rw [← ha.len] at p
    exact k s' H' (up p)
theorem st_forR {g : TG} {t : TA} {n : Int} {m : Nat} (h : OkS B0 B G W s H) (ev : EvA t G [PI n]) (hn : n.toNat = m) (hb : -(2 ^ 62) ≤ n ∧ n < 2 ^ 62) (Gs Gt : Nat → Cn) (Ws : Nat → Option Ow) (h0 : Gs 0 = G) (hw : Ws 0 = W)
    (tg : ∀ i, i < m → TgG g (Gs i) (PI (0 + (i : Int))) (Gt i))
    (body : ∀ C0 C, (∀ {G' W' s' H'}, OkS C0 C G' W' s' H' → OkS B0 B G' W' s' H') → ∀ i, i < m → ∀ s' H', OkS C0 C (Gt i) (Ws i) s' H' → tb { D with nx := OkS C0 C (Gs (i + 1)) (Ws (i + 1)), ct := OkS C0 C (Gs (i + 1)) (Ws (i + 1)), bk := D.nx } s' H')
    (k : ∀ s' H', OkS B0 B (Gs m) (Ws m) s' H' → D.nx s' H') : tFor (iRng1 t) g tb D s H := by
  obtain ⟨H0, g1, sl, ow⟩ := h.ex
  refine ev s H0 H g1.b sl _ fun vs H1 H' gr hvs => ?_
  match vs, hvs with
  | [v], hvs =>
    obtain ⟨hv, _⟩ := hvs
    have ev1 : v = .int n := hv
    subst ev1
    subst hn
    obtain ⟨ok, gb⟩ := OkS.base (g1.trans gr) (sl.mono gr.a) (ow.grow gr)
    have up : ∀ {G' W' s' H2}, OkS H1 (offW W H') G' W' s' H2 → OkS B0 B G' W' s' H2 := fun q => OkS.up gb q
    refine ⟨n, rfl, hb.1, hb.2, for_range (lo := 0) (n := n.toNat) (fun i s' H2 => OkS H1 (offW W H') (Gs i) (Ws i) s' H2) (by rw [h0, hw]; exact ok) (fun i s' H2 hi p => ?_) (fun s' H2 p => k s' H2 (up p))⟩
    obtain ⟨H3, g2, sl2, ow2⟩ := p.ex
    exact tg i hi s' H3 H2 _ g2.b sl2 rfl _ fun s'' sl'' => body H1 (offW W H') up i hi s'' H2 ⟨H3, g2, sl'', ow2⟩
  | [], hvs => exact hvs.elim
  | _ :: _ :: _, hvs => exact hvs.2.elim
theorem st_forR2 {g : TG} {t : TA} {lo n : Int} {m : Nat} (h : OkS B0 B G W s H) (ev : EvA t G [PI lo, PI n]) (hn : (n - lo).toNat = m) (hb : -(2 ^ 62) ≤ lo ∧ lo < 2 ^ 62 ∧ -(2 ^ 62) ≤ n ∧ n < 2 ^ 62) (Gs Gt : Nat → Cn) (Ws : Nat → Option Ow) (h0 : Gs 0 = G) (hw : Ws 0 = W)
    (tg : ∀ i, i < m → TgG g (Gs i) (PI (lo + (i : Int))) (Gt i))
    (body : ∀ C0 C, (∀ {G' W' s' H'}, OkS C0 C G' W' s' H' → OkS B0 B G' W' s' H') → ∀ i, i < m → ∀ s' H', OkS C0 C (Gt i) (Ws i) s' H' → tb { D with nx := OkS C0 C (Gs (i + 1)) (Ws (i + 1)), ct := OkS C0 C (Gs (i + 1)) (Ws (i + 1)), bk := D.nx } s' H')
    (k : ∀ s' H', OkS B0 B (Gs m) (Ws m) s' H' → D.nx s' H') : tFor (iRng2 t) g tb D s H := by
  obtain ⟨H0, g1, sl, ow⟩ := h.ex
  refine ev s H0 H g1.b sl _ fun vs H1 H' gr hvs => ?_
  match vs, hvs with
  | [u, v], hvs =>
    obtain ⟨hu, hv, _⟩ := hvs
    have ev0 : u = .int lo := hu
    have ev1 : v = .int n := hv
    subst ev0
    subst ev1
    subst hn
    obtain ⟨ok, gb⟩ := OkS.base (g1.trans gr) (sl.mono gr.a) (ow.grow gr)
    have up : ∀ {G' W' s' H2}, OkS H1 (offW W H') G' W' s' H2 → OkS B0 B G' W' s' H2 := fun q => OkS.up gb q
    refine ⟨lo, n, rfl, hb, for_range (lo := lo) (n := (n - lo).toNat) (fun i s' H2 => OkS H1 (offW W H') (Gs i) (Ws i) s' H2) (by rw [h0, hw]; exact ok) (fun i s' H2 hi p => ?_) (fun s' H2 p => k s' H2 (up p))⟩
    obtain ⟨H3, g2, sl2, ow2⟩ := p.ex
    exact tg i hi s' H3 H2 _ g2.b sl2 rfl _ fun s'' sl'' => body H1 (offW W H') up i hi s'' H2 ⟨H3, g2, sl'', ow2⟩
  | [], hvs => exact hvs.elim
  | [_], hvs => exact hvs.2.elim
  | _ :: _ :: _ :: _, hvs => exact hvs.2.2.elim
/-! ### comprehensions -/
theorem wipe_set {s : L2.St} {j : Nat} {x : Option V} : ∀ {vs : List Nat}, j ∈ vs → L2.wipe (s.set j x) vs = L2.wipe s vs
  | v :: vs, h => by
    show (L2.wipe (s.set j x) vs).set v none = (L2.wipe s vs).set v none
    by_cases hm : j ∈ vs
    · rw [wipe_set hm]
    · have e : j = v := by
        rcases List.mem_cons.mp h with e | e
        · exact e
        · exact absurd e hm
      subst e
      have key : ∀ us : List Nat, j ∉ us → (L2.wipe (s.set j x) us) = (L2.wipe s us).set j x := by
        intro us
        induction us with
        | nil => intro _; rfl
        | cons u us ih =>
          intro hn
          show (L2.wipe (s.set j x) us).set u none = ((L2.wipe s us).set u none).set j x
          rw [ih fun z => hn (List.mem_cons_of_mem _ z)]
          exact List.set_comm _ _ (fun z => hn (by rw [z]; exact List.mem_cons_self))
      rw [key vs hm, List.set_set]
theorem wipe_wipe {s : L2.St} : ∀ {us vs : List Nat}, (∀ j ∈ us, j ∈ vs) → L2.wipe (L2.wipe s us) vs = L2.wipe s vs
  | [], _, _ => rfl
  | u :: us, vs, h => by
    show L2.wipe ((L2.wipe s us).set u none) vs = _
    rw [wipe_set (h u List.mem_cons_self), wipe_wipe fun j hj => h j (List.mem_cons_of_mem _ hj)]
/-- a comprehension's target: it stores own names only -/
def TgC (g : TG) (vs : List Nat) (G : Cn) (d : Dn) (G' : Cn) : Prop := ∀ (s : L2.St) (H0 H : Hp) (v : V), Same H0 H → Sl H0 G s → d.holds H0 v → ∀ Q : L2.St → Hp → Prop, (∀ s', Sl H0 G' s' → L2.wipe s' vs = L2.wipe s vs → Q s' H) → g v s H Q
def TgsC (g : TGs) (vs : List Nat) (G : Cn) (ds : List Dn) (G' : Cn) : Prop := ∀ (s : L2.St) (H0 H : Hp) (ws : List V), Same H0 H → Sl H0 G s → AllH H0 ds ws → ∀ Q : L2.St → Hp → Prop, (∀ s', Sl H0 G' s' → L2.wipe s' vs = L2.wipe s vs → Q s' H) → g ws s H Q
theorem tc_name {i : Nat} {vs : List Nat} (h : i ∈ vs := by decide) : TgC (gName i) vs G d (G.set i (some d)) := fun s H0 H v sm sl hv Q k => k _ (sl.set hv) (wipe_set h)
theorem tcs_nil {vs : List Nat} : TgsC gNil vs G [] G := fun s H0 H ws sm sl hv Q k => by
  cases ws with
  | nil => exact ⟨rfl, k s sl rfl⟩
  | cons v vs => exact hv.elim
theorem tcs_cons {g : TG} {gs : TGs} {G1 G2 : Cn} {ds : List Dn} {vs : List Nat} (h : TgC g vs G d G1) (hs : TgsC gs vs G1 ds G2) : TgsC (gCons g gs) vs G (d :: ds) G2 := fun s H0 H ws sm sl hv Q k => by
  cases ws with
  | nil => exact hv.elim
  | cons v ws => exact ⟨v, ws, rfl, h s H0 H v sm sl hv.1 _ fun s' sl' e1 => hs s' H0 H ws sm sl' hv.2 Q fun s2 sl2 e2 => k s2 sl2 (e2.trans e1)⟩
theorem tc_tup {gs : TGs} {n : Nat} {ds : List Dn} {G' : Cn} {vs : List Nat} (h : TgsC gs vs G ds G') (hn : ds.length = n := by rfl) : TgC (gTup K n gs) vs G (PT K ds) G' := fun s H0 H v sm sl ⟨a, ws, e, hs, hv⟩ Q k =>
  ⟨a, ws, e, same_t sm hs, by rw [← hv.len]; exact hn, h s H0 H ws sm sl hv Q k⟩
/-- what is made of the first i items -/
def kept {A : Type} (xs : List A) (b : A → Bool) (e : A → Dn) (i : Nat) : List Dn := ((xs.take i).filter b).map e
theorem kept_succ {A : Type} {xs : List A} {b : A → Bool} {e : A → Dn} {i : Nat} {x : A} (h : xs[i]? = some x) : kept xs b e (i + 1) = if b x = true then kept xs b e i ++ [e x] else kept xs b e i := by
  unfold kept
  have et : xs.take (i + 1) = xs.take i ++ [x] := by
    rw [List.take_add_one, h]
    rfl
  rw [et, List.filter_append]
  cases q : b x with
  | true => rw [if_pos rfl, List.filter_cons_of_pos (by rw [q]), List.filter_nil, List.map_append]; rfl
  | false => rw [if_neg Bool.false_ne_true, List.filter_cons_of_neg (by rw [q]; exact Bool.false_ne_true), List.filter_nil, List.append_nil]
theorem kept_len {A : Type} {xs : List A} {b : A → Bool} {e : A → Dn} {i : Nat} : (kept xs b e i).length ≤ xs.length := by
  unfold kept
  rw [List.length_map]
  exact Nat.le_trans (List.length_filter_le _ _) (by rw [List.length_take]; omega)
theorem kept_all {A : Type} {xs : List A} {b : A → Bool} {e : A → Dn} : kept xs b e xs.length = (xs.filter b).map e := by
  unfold kept
  rw [List.take_length]
theorem Grow.none_ {H0 H H0' H' : Hp} {L : Addr} (g : Grow H0 H H0' H') (h0 : H0 L = none) (h : H L ≠ none) : H0' L = none := by
  cases q : H0' L with
  | none => rfl
  | some u => exact absurd (g.d L h0 (by rw [q]; exact fun z => nomatch z)) h
/-- the new list at L holds ds -/
def LcP (H1 H' : Hp) (L : Addr) (ds : List Dn) (H2 : Hp) : Prop := ∃ H3, Grow H1 H' H3 H2 ∧ H3 L = none ∧ ∃ us, H2 L = some (.lst us) ∧ AllH H3 ds us
theorem lc_begin {H1 H' : Hp} {L : Addr} (sm : Same H1 H') (hL : H' L = none) : LcP H1 H' L [] (upd H' L (.lst [])) :=
  ⟨H1, ⟨Same.refl _, sm.trans (same_new hL), same_new hL, fun x h k => absurd h k⟩, sm.free hL, [], upd_same, trivial⟩
theorem lc_end {H0 H H1 H' H2 : Hp} {L : Addr} {ds : List Dn} (g0 : Grow H0 H H1 H') (hL : H' L = none) (p : LcP H1 H' L ds H2) : ∃ H3, Grow H0 H H3 H2 ∧ (PL ds).holds H3 (.ref L) := by
  obtain ⟨H3, g, hn, us, hu, ha⟩ := p
  refine ⟨upd H3 L (.lst us), g0.trans ⟨g.a.trans (same_new hn), fun a o e => ?_, g.c, fun x hx hn' => ?_⟩, L, us, rfl, upd_same, ha.mono (same_new hn)⟩
  · by_cases z : a = L
    · subst z
      rw [upd_same] at e
      rw [hu]
      exact e
    · rw [upd_ne z] at e
      exact g.b _ _ e
  · by_cases z : x = L
    · rw [z]
      exact hL
    · rw [upd_ne z] at hn'
      exact g.d x hx hn'
theorem lc_turn {A : Type} {vs : List Nat} {g : TG} {xs : List A} {f e : A → Dn} {b : A → Bool} {Gx : A → Cn} {s : L2.St} {H1 H' H2 : Hp} {L : Addr} {i : Nat} {x : A} {y : V} (hx : xs[i]? = some x) (hlen : xs.length ≤ 100000)
    (tg : TgC g vs (wipeD G vs) (f x) (Gx x)) (ht : EvT tt (Gx x) (b x)) (he : b x = true → EvG te (Gx x) (e x)) (sl : Sl H1 G s) (hy : (f x).holds H1 y) (hL : H' L = none) (p : LcP H1 H' L (kept xs b e i) H2) :
    g y (L2.wipe s vs) H2 fun s2 H2 => L2.wipe s2 vs = L2.wipe s vs ∧ tt s2 H2 fun c H3 =>
      if c = true then te s2 H3 fun z H4 => ∃ acc, H4 L = some (.lst acc) ∧ acc.length < sizeLine ∧ LcP H1 H' L (kept xs b e (i + 1)) (upd H4 L (.lst (acc ++ [z]))) else LcP H1 H' L (kept xs b e (i + 1)) H3 := by
  obtain ⟨H3, g3, hn, us, hu, ha⟩ := p
  refine tg _ H3 H2 y g3.b ((sl.wipe vs).mono g3.a) ((f x).mono g3.a hy) _ fun s2 sl2 ew => ⟨by rw [ew, wipe_wipe fun _ h => h], ?_⟩
  refine ht s2 H3 H2 g3.b sl2 _ fun H4 H5 g5 => ?_
  have hu5 := g5.c _ _ hu
  have hn4 := g5.none_ hn (by rw [hu]; exact fun z => nomatch z)
  rw [kept_succ hx]
  cases q : b x with
  | false =>
    rw [if_neg Bool.false_ne_true, if_neg Bool.false_ne_true]
    exact ⟨H4, g3.trans g5, hn4, us, hu5, ha.mono g5.a⟩
  | true =>
    rw [if_pos rfl, if_pos rfl]
    refine he q s2 H4 H5 g5.b (sl2.mono g5.a) _ fun z H6 H7 g7 hz => ?_
    have hu7 := g7.c _ _ hu5
    have hn6 := g7.none_ hn4 (by rw [hu5]; exact fun z => nomatch z)
    have ga := (g3.trans g5).trans g7
    have hl7 : us.length < 100000 := by
      rw [← ha.len]
      have h1 : i < xs.length := (List.getElem?_eq_some_iff.mp hx).1
      have h2 : (kept xs b e i).length ≤ i := by
        unfold kept
        rw [List.length_map]
        exact Nat.le_trans (List.length_filter_le _ _) (by rw [List.length_take]; omega)
      omega
    refine ⟨us, hu7, sz_lt hl7, H6, ⟨ga.a, fun a o e => ?_, fun a o e => ?_, ga.d⟩, hn6, us ++ [z], upd_same, (ha.mono (g5.a.trans g7.a)).app ⟨hz, trivial⟩⟩
    · rw [upd_ne (ne_of_none e hn6)]
      exact ga.b _ _ e
    · rw [upd_ne (ne_of_none e hL)]
      exact ga.c _ _ e
theorem lc_end' {A : Type} {xs : List A} {e : A → Dn} {b : A → Bool} {H0 H H1 H' H2 : Hp} {L : Addr} {n : Nat} (hn : n = xs.length) (g0 : Grow H0 H H1 H') (hL : H' L = none) (p : LcP H1 H' L (kept xs b e n) H2) {Q : VK}
    (k : ∀ v H0' H2, Grow H0 H H0' H2 → (PL ((xs.filter b).map e)).holds H0' v → Q v H2) : Q (.ref L) H2 := by
  rw [hn, kept_all] at p
  obtain ⟨H3, g, h⟩ := lc_end g0 hL p
  exact k _ _ _ g h
theorem g_lcL {A : Type} {vs : List Nat} {g : TG} (xs : List A) (f e : A → Dn) (b : A → Bool) (Gx : A → Cn) (hl : EvG tl G (PL (xs.map f))) (hlen : xs.length ≤ 100000) (tg : ∀ x, x ∈ xs → TgC g vs (wipeD G vs) (f x) (Gx x))
    (ht : ∀ x, x ∈ xs → EvT tt (Gx x) (b x)) (he : ∀ x, x ∈ xs → b x = true → EvG te (Gx x) (e x)) : EvG (tLc (iList K tl) g tt te vs) G (PL ((xs.filter b).map e)) := fun s H0 H sm sl Q k => by
  refine hl s H0 H sm sl _ fun v H1 H' g1 ⟨a, ws, ev, hla, haw⟩ => ?_
  have lw : ws.length = xs.length := by rw [← haw.len, List.length_map]
  refine ⟨a, ev, ⟨ws, SqL.of (g1.b _ _ hla)⟩, fun L hL => lc_list (K := K) (a := a) (xs := ws) (fun i H2 => LcP H1 H' L (kept xs b e i) H2) (lc_begin g1.b hL) (fun i H2 hi p => ?_) (fun i y H2 hy p => ?_) (fun H2 p => lc_end' lw g1 hL p k)⟩
  · obtain ⟨H3, g3, _⟩ := p
    exact SqL.of (g3.b _ _ (g3.a _ _ hla))
  · obtain ⟨d, hd, hdy⟩ := haw.at_ hy
    rw [List.getElem?_map] at hd
    cases hx : xs[i]? with
    | none =>
      rw [hx] at hd
      cases hd
    | some x =>
      rw [hx] at hd
      have ed : f x = d := Option.some.inj hd
      subst ed
      have hm := List.mem_of_getElem? hx
      exact lc_turn hx hlen (tg x hm) (ht x hm) (he x hm) (sl.mono g1.a) hdy hL p
theorem g_lcT {A : Type} {vs : List Nat} {g : TG} (xs : List A) (f e : A → Dn) (b : A → Bool) (Gx : A → Cn) (hl : EvG tl G (PT K (xs.map f))) (hlen : xs.length ≤ 100000) (tg : ∀ x, x ∈ xs → TgC g vs (wipeD G vs) (f x) (Gx x))
    (ht : ∀ x, x ∈ xs → EvT tt (Gx x) (b x)) (he : ∀ x, x ∈ xs → b x = true → EvG te (Gx x) (e x)) : EvG (tLc (iTup K tl) g tt te vs) G (PL ((xs.filter b).map e)) := fun s H0 H sm sl Q k => by
  refine hl s H0 H sm sl _ fun v H1 H' g1 ⟨a, ws, ev, hla, haw⟩ => ?_
  have lw : ws.length = xs.length := by rw [← haw.len, List.length_map]
  refine ⟨a, ev, ⟨ws, same_t g1.b hla⟩, fun L hL => lc_tup (K := K) (a := a) (xs := ws) (fun i H2 => LcP H1 H' L (kept xs b e i) H2) (lc_begin g1.b hL) (fun i H2 hi p => ?_) (fun i y H2 hy p => ?_) (fun H2 p => lc_end' lw g1 hL p k)⟩
  · obtain ⟨H3, g3, _⟩ := p
    exact same_t (g3.a.trans g3.b) hla
  · obtain ⟨d, hd, hdy⟩ := haw.at_ hy
    rw [List.getElem?_map] at hd
    cases hx : xs[i]? with
    | none =>
      rw [hx] at hd
      cases hd
    | some x =>
      rw [hx] at hd
      have ed : f x = d := Option.some.inj hd
      subst ed
      have hm := List.mem_of_getElem? hx
      exact lc_turn hx hlen (tg x hm) (ht x hm) (he x hm) (sl.mono g1.a) hdy hL p
/-- over range(n) -/
theorem g_lcR {vs : List Nat} {g : TG} {t : TA} {n : Int} (m : Nat) (e : Nat → Dn) (b : Nat → Bool) (Gx : Nat → Cn) (hn : n = (m : Int)) (hl : EvA t G [PI n]) (hlen : m ≤ 100000) (tg : ∀ i, i < m → TgC g vs (wipeD G vs) (PI (0 + (i : Int))) (Gx i))
    (ht : ∀ i, i < m → EvT tt (Gx i) (b i)) (he : ∀ i, i < m → b i = true → EvG te (Gx i) (e i)) : EvG (tLc (iRng1 t) g tt te vs) G (PL (((List.range m).filter b).map e)) := fun s H0 H sm sl Q k => by
  refine hl s H0 H sm sl _ fun ws H1 H' g1 hws => ?_
  match ws, hws with
  | [v], hws =>
    obtain ⟨hv, _⟩ := hws
    have ev1 : v = .int n := hv
    subst ev1
    subst hn
    refine ⟨(m : Int), rfl, by omega, by omega, fun L hL => lc_range (lo := 0) (n := (m : Int).toNat) (fun i H2 => LcP H1 H' L (kept (List.range m) b e i) H2) (lc_begin g1.b hL) (fun i H2 hi p => ?_) (fun H2 p => lc_end' (by simp) g1 hL p k)⟩
    have hi' : i < m := by omega
    have hx : (List.range m)[i]? = some i := by
      rw [List.getElem?_range hi']
    exact lc_turn (xs := List.range m) (f := fun i => PI (0 + (i : Int))) hx (by rw [List.length_range]; exact hlen) (tg i hi') (ht i hi') (he i hi') (sl.mono g1.a) rfl hL p
  | [], hws => exact hws.elim
  | _ :: _ :: _, hws => exact hws.2.elim
theorem t_yes : EvT tYes G true := fun s H0 H sm sl Q k => k H0 H (.refl sm)
end
end K9
set_option Elab.async false
set_option linter.all false
set_option maxRecDepth 100000
set_option maxHeartbeats 4000000
/-! K9C: promises of defs and of classes' __init__, over the denotations. -/
namespace K9
open PySem PySem.Spec PyProof.Rows L2

/-- a def of the module: it keeps sp -/
structure Df (P : Program) (w : World) (K : PySem.W.Frag) (mg : Str → Option Value) (base : Heap) (CX : CXT) (k : Nat) (x : Str) (ps : List Str) (sp : Sp) : Prop where
  ex : ∃ f fd, FnOk P w K mg base CX k f fd ps sp ∧ mg x = some (.ref f) ∧ PySem.W.keepIn K (.ref f) = true ∧ Binds K fd ps []
/-- a class of the module: its __init__ keeps sp (its first parameter: the instance); dvs: the defaults of the last parameters -/
structure Dc (P : Program) (w : World) (K : PySem.W.Frag) (mg : Str → Option Value) (base : Heap) (CX : CXT) (k : Nat) (x : Str) (C : Addr) (ps : List Str) (dvs : List V) (sp : Sp) : Prop where
  ex : ∃ f fd ds, FnOk P w K mg base CX k f fd ps sp ∧ mg x = some (.ref C) ∧ Mk K C f ∧ Binds K fd ps ds ∧ Vals dvs ds
section
variable {X : Cx} {k j : Nat} {x : Str} {ps : List Str} {sp : Sp} {C : Addr} {dvs : List V} {p pos : Pos} {e : Expr} {es : List Expr} {t : TA}
theorem pe_d (F : Df X.prog X.w X.K X.mg X.base CX0 k x ps sp) (hr : Room j X.A) (ha : PA X (e :: es) t) (hg : Gl X x := by rfl) (hj : k ≤ j := by decide) (hdb : (x == ("__debug__" : Str)) = false := by decide)
    (he : starEach (e :: es) X.env = (false, eval e X.env) :: starEach es X.env := by rfl) (hpl : (backTo pos (starEach es X.env)).any (·.1) = false := by rfl) : PE X (.Call (.Name x p) (e :: es) [] pos) (tCall sp [] E0 t) := by
  obtain ⟨f, fd, G, g, kp, b⟩ := F.ex
  exact pe_call G (hr.mono hj) hg g kp b .nil pass0 ha hdb he hpl
theorem pe_k (F : Dc X.prog X.w X.K X.mg X.base CX0 k x C ps dvs sp) (hr : Room j X.A) (ha : PA X (e :: es) t) (hg : Gl X x := by rfl) (hj : k + 1 ≤ j := by decide) (hdb : (x == ("__debug__" : Str)) = false := by decide)
    (he : starEach (e :: es) X.env = (false, eval e X.env) :: starEach es X.env := by rfl) (hpl : (backTo pos (starEach es X.env)).any (·.1) = false := by rfl) : PE X (.Call (.Name x p) (e :: es) [] pos) (tMake C sp dvs E0 t) := by
  obtain ⟨f, fd, ds, G, g, M, b, hv⟩ := F.ex
  exact pe_make M G (hr.mono hj) hg g b hv pass0 ha hdb he hpl
end

/-! ### the start of a def -/
theorem sl_start {H0 : Hp} {N ps : List Str} {ds : List Dn} {vs : List V} (h : AllH H0 ds vs) (hN : vs.length = ps.length) : Sl H0 (ds.map some ++ List.replicate (N.length - ps.length) none) (L2.start N vs) := by
  refine ⟨?_, fun i d e => ?_⟩
  · unfold L2.start
    rw [List.length_append, List.length_append, List.length_map, List.length_map, List.length_replicate, List.length_replicate, h.len, hN]
  · unfold L2.start
    by_cases hi : i < ds.length
    · rw [List.getElem?_append_left (by rw [List.length_map]; exact hi), List.getElem?_map] at e
      cases q : ds[i]? with
      | none =>
        rw [q] at e
        cases e
      | some d' =>
        rw [q] at e
        have ed : d' = d := Option.some.inj (Option.some.inj e)
        subst ed
        obtain ⟨v, h1, h2⟩ := h.get q
        refine ⟨v, ?_, h2⟩
        rw [List.getElem?_append_left (by rw [List.length_map, ← h.len]; exact hi), List.getElem?_map, h1]
        rfl
    · rw [List.getElem?_append_right (by rw [List.length_map]; omega)] at e
      have hm := List.mem_of_getElem? e
      rw [List.mem_replicate] at hm
      exact nomatch hm.2
section
variable {P : Program} {w : World} {K : PySem.W.Frag} {mg : Str → Option Value} {base : Heap}
/-- a def that raises nothing -/
theorem df_F {A : Type} {args : A → List Dn} {pre : A → Prop} {res : A → Dn} {x : Str} {params : Arguments} {body : List Stmt} {scope : Scope} {f : Addr} {fd : FuncData} {N ps : List Str} {k : Nat}
    (F : FunD K x x params body scope [] [] f fd) (g : mg x = some (.ref f)) (b : Binds K fd ps []) (S : FnScope N ps scope) (hl : ∀ a, (args a).length = ps.length) (G0 : A → Cn) (hG : ∀ a, (args a).map some ++ List.replicate (N.length - ps.length) none = G0 a)
    (hb : ∀ (cdv : Value) (A' : Around) (outer : List Env) (s : Shared) (H : Hp) (E : XK), Room k (A'.deeper (envOfC x scope s.heap.objs.size f cdv)) →
      ∃ t, PSs (cxOf CX0 P w K mg base N x scope f cdv A' outer s H E).nox body t ∧
        ∀ (a : A), pre a → ∀ (B0 : Hp) (z : L2.St) (D : Ends), OkS B0 H (G0 a) none z H → (∀ v H0' H', Grow B0 H H0' H' → (res a).holds H0' v → D.rt v H') → (∀ z' H0' H', Grow B0 H H0' H' → (res a).holds H0' .non → D.nx z' H') → t D z H) :
    Df P w K mg base CX0 (k + 1) x ps (spF args pre res) := by
  refine ⟨f, fd, F.ok S (fun vs H Q E h => ?_) (fun cdv A' outer s H vs Q E hr h => ?_), g, F.kp, b⟩
  · obtain ⟨H0, a, sm, hp, hv, _⟩ := h
    rw [← hv.len]
    exact hl a
  · obtain ⟨t, ht, q⟩ := hb cdv A' outer s H E hr
    obtain ⟨H0, a, sm, hp, hv, kk⟩ := h
    refine ⟨t, PSs.nox ht, q a hp H0 _ _ ?_ (fun v H0' H' gr hr => kk v H0' H' gr hr) (fun z' H0' H' gr hr => kk .non H0' H' gr hr)⟩
    have sl := sl_start (N := N) (ps := ps) hv (by rw [← hv.len]; exact hl a)
    rw [hG a] at sl
    exact .start sm sl
/-! ### __init__ -/
def spI (C : Addr) {A : Type} (args : A → List Dn) (pre : A → Prop) (fs : A → List (Str × Dn)) : Sp := fun vs H Q _ => ∃ H0 a p dx ws, vs = .ref p :: ws ∧ H p = some (.ins C dx []) ∧ H0 p = none ∧ Same H0 H ∧ pre a ∧ AllH H0 (args a) ws ∧
  ∀ H0' H', Grow H0 (del H p) H0' H' → H0' p = none → (∃ us, H' p = some (.ins C dx us) ∧ FldH H0' (fs a) us) → Q .non H'
theorem dc_I {A : Type} {C : Addr} {args : A → List Dn} {pre : A → Prop} {fs : A → List (Str × Dn)} {x qual : Str} {params : Arguments} {body : List Stmt} {scope : Scope} {f : Addr} {fd : FuncData} {N ps : List Str} {k : Nat} {dvs dvs' : List V} {ds : List Value}
    (F : FunD K "__init__" qual params body scope dvs' [] f fd) (g : mg x = some (.ref C)) (M : Mk K C f) (b : Binds K fd ps ds) (hv : Vals dvs ds) (S : FnScope N ps scope) (hl : ∀ a, (args a).length + 1 = ps.length)
    (G0 : A → V → Cn) (hG : ∀ a v, some (PV v) :: (args a).map some ++ List.replicate (N.length - ps.length) none = G0 a v)
    (hb : ∀ (cdv : Value) (A' : Around) (outer : List Env) (s : Shared) (H : Hp) (E : XK), Room k (A'.deeper (envOfC qual scope s.heap.objs.size f cdv)) →
      ∃ t, PSs (cxOf CX0 P w K mg base N qual scope f cdv A' outer s H E).nox body t ∧
        ∀ (a : A), pre a → ∀ (B0 B : Hp) (p dx : Addr) (z : L2.St) (D : Ends), OkS B0 B (G0 a (.ref p)) (some (owI p C dx [])) z H → (∀ z' H' G', OkS B0 B G' (some (owI p C dx (fs a))) z' H' → D.nx z' H') → t D z H) :
    Dc P w K mg base CX0 (k + 1) x C ps dvs (spI C args pre fs) := by
  refine ⟨f, fd, ds, F.ok S (fun vs H Q E h => ?_) (fun cdv A' outer s H vs Q E hr h => ?_), g, M, b, hv⟩
  · obtain ⟨H0, a, p, dx, ws, rfl, hp, hn, sm, hpre, hw, _⟩ := h
    rw [List.length_cons, ← hw.len]
    exact hl a
  · obtain ⟨t, ht, q⟩ := hb cdv A' outer s H E hr
    obtain ⟨H0, a, p, dx, ws, rfl, hp, hn, sm, hpre, hw, kk⟩ := h
    have s2 : Same H0 (del H p) := fun b o e => by
      rw [del_ne (ne_of_none e hn)]
      exact sm _ _ e
    have s3 : Same (del H p) H := fun b o e => (del_of e).2
    refine ⟨t, PSs.nox ht, q a hpre H0 (del H p) p dx _ _ ?_ (fun z' H' G' ok => ?_)⟩
    · have hv1 : AllH H0 (PV (.ref p) :: args a) (.ref p :: ws) := ⟨rfl, hw⟩
      have sl := sl_start (N := N) (ps := ps) hv1 (by rw [List.length_cons, ← hw.len]; exact hl a)
      have e : (PV (.ref p) :: args a).map some ++ List.replicate (N.length - ps.length) none = G0 a (.ref p) := hG a (.ref p)
      rw [e] at sl
      exact ⟨H0, ⟨Same.refl _, sm, s3, fun x h k => absurd h k⟩, sl, hn, del_same, _, hp, [], rfl, trivial⟩
    · obtain ⟨H0', gr, sl, h1, h2, o, h3, us, e, h4⟩ := ok.ex
      exact kk H0' H' gr h1 ⟨us, by rw [← e]; exact h3, h4⟩
end
section
variable {K : PySem.W.Frag} {B0 B : Hp} {G : Cn} {s : L2.St} {H : Hp} {D : Ends} {ta tv : TE} {d : Dn} {p C dx : Addr} {fs : List (Str × Dn)} {f : Str}
/-- self.f = e -/
theorem st_fld {fs' : List (Str × Dn)} (h : OkS B0 B G (some (owI p C dx fs)) s H) (ev : EvG tv G d) (eo : EvG ta G (PV (.ref p))) (hc : Cls K C) (hn : NoAttr K C f) (hl : fs.length < 1000) (e : putD f d fs = fs') (k : ∀ H', OkS B0 B G (some (owI p C dx fs')) s H' → D.nx s H') : sFld K ta tv f D s H := by
  unfold sFld
  obtain ⟨H0, g0, sl0, ow0⟩ := h.ex
  refine ev.at_ g0.b sl0 fun y H1 H' g1 sl1 hy => ?_
  refine eo.at_ g1.b sl1 fun v H2 H'' g2 sl2 hv => ?_
  have ev1 : v = .ref p := hv
  subst ev1
  have ow2 := (ow0.grow g1).grow g2
  have gr := (g0.trans g1).trans g2
  obtain ⟨h1, h2, o, h3, us, eo2, h4⟩ := ow2
  have e2 : o = .ins C dx us := eo2
  subst e2
  have h1' : H2 p = none := h1
  have h2' : B p = none := h2
  have h3' : H'' p = some (.ins C dx us) := h3
  refine ⟨p, C, dx, us, rfl, h3', hc, hn, by rw [← h4.len]; exact hl, ?_⟩
  refine k _ ⟨H2, ⟨gr.a, fun a u q => ?_, fun a u q => ?_, gr.d⟩, sl2, h1', h2', _, upd_same, _, rfl, ?_⟩
  · rw [upd_ne (ne_of_none q h1')]
    exact gr.b _ _ q
  · rw [upd_ne (ne_of_none q h2')]
    exact gr.c _ _ q
  · rw [← e]
    exact h4.put (d.mono g2.a hy)
/-- C(..) -/
theorem g_make {A : Type} {args : A → List Dn} {pre : A → Prop} {fl : A → List (Str × Dn)} {t : TA} {E : XK} (x : A) (hp : pre x) (ds : List Dn) (dvs : List V) (dd : List Dn) (he : args x = ds ++ dd) (hd : ∀ H : Hp, AllH H dd dvs) (h : EvA t G ds) :
    EvG (tMake C (spI C args pre fl) dvs E t) G (PO C (fl x)) := fun s H0 H sm sl Q k => by
  refine h s H0 H sm sl _ fun vs H1 H' g1 hvs y dy hy hdy hne => ?_
  have hny : y ≠ dy := fun z => hne z.symm
  have h1y : H1 y = none := g1.b.free hy
  have s1 : Same H' (upd H' dy (.own y)) := same_new hdy
  have hy2 : upd H' dy (HO.own y) y = none := by rw [upd_ne hny]; exact hy
  have s2 : Same (upd H' dy (.own y)) (upd (upd H' dy (.own y)) y (.ins C dy [])) := same_new hy2
  have ed : ∀ b o, H' b = some o → del (upd (upd H' dy (.own y)) y (.ins C dy [])) y b = some o := fun b o e => by
    rw [del_ne (ne_of_none e hy)]
    exact s2 _ _ (s1 _ _ e)
  refine ⟨H1, x, y, dy, vs ++ dvs, rfl, upd_same, h1y, fun b o e => s2 _ _ (s1 _ _ (g1.b _ _ e)), hp, by rw [he]; exact hvs.app (hd _), fun H2 H3 g2 hn2 ⟨us, h3, h4⟩ => ⟨rfl, ?_⟩⟩
  refine k (.ref y) (upd H2 y (.ins C dy us)) H3 (g1.trans ⟨g2.a.trans (same_new hn2), fun a o e => ?_, fun a o e => g2.c _ _ (ed a o e), fun a ha hn => ?_⟩) ⟨y, dy, us, rfl, upd_same, h4.mono (same_new hn2)⟩
  · by_cases z : a = y
    · subst z
      rw [upd_same] at e
      rw [h3]
      exact e
    · rw [upd_ne z] at e
      exact g2.b _ _ e
  · by_cases z : a = y
    · rw [z]
      exact hy
    · rw [upd_ne z] at hn
      have q := g2.d a ha hn
      cases r : H' a with
      | none => rfl
      | some o =>
        rw [ed a o r] at q
        cases q
end
/-! ### built-in functions by data -/
section
variable {K : PySem.W.Frag} {G : Cn} {ta tb : TE} {t : TA}
theorem all1 {H : Hp} {d : Dn} {vs : List V} (h : AllH H [d] vs) : ∃ v, vs = [v] ∧ d.holds H v := by
  match vs, h with
  | [v], h => exact ⟨v, rfl, h.1⟩
  | [], h => exact h.elim
  | _ :: _ :: _, h => exact h.2.elim
theorem all2 {H : Hp} {d e : Dn} {vs : List V} (h : AllH H [d, e] vs) : ∃ v u, vs = [v, u] ∧ d.holds H v ∧ e.holds H u := by
  match vs, h with
  | [v, u], h => exact ⟨v, u, rfl, h.1, h.2.1⟩
  | [], h => exact h.elim
  | [_], h => exact h.2.elim
  | _ :: _ :: _ :: _, h => exact h.2.2.elim
theorem all3 {H : Hp} {d e f : Dn} {vs : List V} (h : AllH H [d, e, f] vs) : ∃ v u w, vs = [v, u, w] ∧ d.holds H v ∧ e.holds H u ∧ f.holds H w := by
  match vs, h with
  | [v, u, w], h => exact ⟨v, u, w, rfl, h.1, h.2.1, h.2.2.1⟩
  | [], h => exact h.elim
  | [_], h => exact h.2.elim
  | [_, _], h => exact h.2.2.elim
  | _ :: _ :: _ :: _ :: _, h => exact h.2.2.2.elim
def mx (i j : Int) : Int := if j > i then j else i
def mn (i j : Int) : Int := if j < i then j else i
def ab (i : Int) : Int := if i < 0 then -i else i
theorem r_max2 {i j : Int} : RAG (fun xs H Q => ∃ i j, xs = [V.int i, V.int j] ∧ Q (.int (if j > i then j else i)) H) [PI i, PI j] (PI (mx i j)) := fun xs H0 H sm h Q k => by
  obtain ⟨v, u, rfl, h1, h2⟩ := all2 h
  have e1 : v = .int i := h1
  have e2 : u = .int j := h2
  subst e1 e2
  exact ⟨i, j, rfl, k _ H0 H (.refl sm) rfl⟩
theorem r_min2 {i j : Int} : RAG (fun xs H Q => ∃ i j, xs = [V.int i, V.int j] ∧ Q (.int (if j < i then j else i)) H) [PI i, PI j] (PI (mn i j)) := fun xs H0 H sm h Q k => by
  obtain ⟨v, u, rfl, h1, h2⟩ := all2 h
  have e1 : v = .int i := h1
  have e2 : u = .int j := h2
  subst e1 e2
  exact ⟨i, j, rfl, k _ H0 H (.refl sm) rfl⟩
theorem r_abs {i : Int} : RAG (fun xs H Q => ∃ i, xs = [V.int i] ∧ Q (.int (if i < 0 then -i else i)) H) [PI i] (PI (ab i)) := fun xs H0 H sm h Q k => by
  obtain ⟨v, rfl, h1⟩ := all1 h
  have e1 : v = .int i := h1
  subst e1
  exact ⟨i, rfl, k _ H0 H (.refl sm) rfl⟩
/-- max of three -/
def rMax3I : List V → Hp → VK → Prop := fun xs H Q => ∃ i j l, xs = [V.int i, V.int j, V.int l] ∧ Q (.int (mx (mx i j) l)) H
theorem call_max3 {X : Cx} (hc : X.calm = true) : CallR X (.builtin "max") rMax3I := by
  intro pins s σ H vs us Q I r h
  obtain ⟨i, j, l, rfl, q⟩ := h
  match us, r with
  | [u1, u2, u3], .cons r1 (.cons r2 (.cons r3 .nil)) =>
    obtain ⟨t1, rfl⟩ := r1
    obtain ⟨t2, rfl⟩ := r2
    obtain ⟨t3, rfl⟩ := r3
    refine max_three_ints (I.ok.hd hc) fun h' tk k => ?_
    refine ⟨.int (mx (mx i j) l), H, I.kept k, ?_, q⟩
    unfold mx
    by_cases c1 : j > i
    · rw [if_pos c1, if_pos c1]
      by_cases c2 : l > j
      · rw [if_pos c2, if_pos c2]; exact ⟨_, rfl⟩
      · rw [if_neg c2, if_neg c2]; exact ⟨_, rfl⟩
    · rw [if_neg c1, if_neg c1]
      by_cases c2 : l > i
      · rw [if_pos c2, if_pos c2]; exact ⟨_, rfl⟩
      · rw [if_neg c2, if_neg c2]; exact ⟨_, rfl⟩
theorem r_max3 {i j l : Int} : RAG rMax3I [PI i, PI j, PI l] (PI (mx (mx i j) l)) := fun xs H0 H sm h Q k => by
  obtain ⟨v, u, w, rfl, h1, h2, h3⟩ := all3 h
  have e1 : v = .int i := h1
  have e2 : u = .int j := h2
  have e3 : w = .int l := h3
  subst e1 e2 e3
  exact ⟨i, j, l, rfl, k _ H0 H (.refl sm) rfl⟩
/-- len of a list, a tuple -/
theorem r_lenL {ds : List Dn} : RAG (fun xs H Q => ∃ p ys, xs = [V.ref p] ∧ (SqL K H p ys ∨ SqT K H p ys) ∧ Q (.int ys.length) H) [PL ds] (PI ds.length) := fun xs H0 H sm h Q k => by
  obtain ⟨v, rfl, a, vs, rfl, hl, ha⟩ := all1 h
  exact ⟨a, vs, rfl, .inl (SqL.of (sm _ _ hl)), by rw [← ha.len]; exact k _ H0 H (.refl sm) rfl⟩
theorem r_lenT {ds : List Dn} : RAG (fun xs H Q => ∃ p ys, xs = [V.ref p] ∧ (SqL K H p ys ∨ SqT K H p ys) ∧ Q (.int ys.length) H) [PT K ds] (PI ds.length) := fun xs H0 H sm h Q k => by
  obtain ⟨v, rfl, a, vs, rfl, hl, ha⟩ := all1 h
  exact ⟨a, vs, rfl, .inr (same_t sm hl), by rw [← ha.len]; exact k _ H0 H (.refl sm) rfl⟩
/-- a list or a tuple -/
def PQ (K : PySem.W.Frag) (ds : List Dn) : Dn := ⟨fun H v => (PL ds).holds H v ∨ (PT K ds).holds H v, fun e h => h.elim (fun z => .inl ((PL ds).mono e z)) fun z => .inr ((PT K ds).mono e z)⟩
theorem pq_l {ds : List Dn} {H : Hp} {v : V} (h : (PL ds).holds H v) : (PQ K ds).holds H v := .inl h
theorem pq_t {ds : List Dn} {H : Hp} {v : V} (h : (PT K ds).holds H v) : (PQ K ds).holds H v := .inr h
/-- tuple(xs) -/
theorem r_tuple {ds : List Dn} : RAG (fun xs H Q => ∃ p ys, xs = [V.ref p] ∧ ((SqL K H p ys ∧ ∀ l, H l = none → Q (.ref l) (upd H l (.tup ys))) ∨ (SqT K H p ys ∧ Q (.ref p) H))) [PQ K ds] (PT K ds) := fun xs H0 H sm h Q k => by
  obtain ⟨v, rfl, h | h⟩ := all1 h
  · obtain ⟨a, vs, rfl, hl, ha⟩ := h
    exact ⟨a, vs, rfl, .inl ⟨SqL.of (sm _ _ hl), fun l hn => k _ _ _ (.new sm hn) ⟨l, vs, rfl, SqT.of upd_same, ha.mono (same_new (sm.free hn))⟩⟩⟩
  · obtain ⟨a, vs, rfl, hl, ha⟩ := h
    exact ⟨a, vs, rfl, .inr ⟨same_t sm hl, k _ H0 H (.refl sm) ⟨a, vs, rfl, hl, ha⟩⟩⟩
/-- list(xs) -/
theorem r_list {ds : List Dn} : RAG (fun xs H Q => ∃ p ys, xs = [V.ref p] ∧ (SqL K H p ys ∨ SqT K H p ys) ∧ ∀ l, H l = none → Q (.ref l) (upd H l (.lst ys))) [PQ K ds] (PL ds) := fun xs H0 H sm h Q k => by
  obtain ⟨v, rfl, h | h⟩ := all1 h
  · obtain ⟨a, vs, rfl, hl, ha⟩ := h
    exact ⟨a, vs, rfl, .inl (SqL.of (sm _ _ hl)), fun l hn => k _ _ _ (.new sm hn) ⟨l, vs, rfl, upd_same, ha.mono (same_new (sm.free hn))⟩⟩
  · obtain ⟨a, vs, rfl, hl, ha⟩ := h
    exact ⟨a, vs, rfl, .inr (same_t sm hl), fun l hn => k _ _ _ (.new sm hn) ⟨l, vs, rfl, upd_same, ha.mono (same_new (sm.free hn))⟩⟩
/-- int(n) -/
theorem r_int {i : Int} : RAG (fun xs H Q => (∃ i, xs = [V.int i] ∧ Q (.int i) H) ∨ ∃ k, xs = [V.bl k] ∧ Q (.int (if k then 1 else 0)) H) [PI i] (PI i) := fun xs H0 H sm h Q k => by
  obtain ⟨v, rfl, h1⟩ := all1 h
  have e1 : v = .int i := h1
  subst e1
  exact .inl ⟨i, rfl, k _ H0 H (.refl sm) rfl⟩
/-- xs + ys -/
theorem r_cat {ds es : List Dn} (h : ds.length + es.length ≤ 100000) : R2G rCat (PL ds) (PL es) (PL (ds ++ es)) := fun x y H0 H sm ⟨a, vs, ea, hl, ha⟩ ⟨b, ws, eb, hm, hb⟩ Q k =>
  ⟨a, b, vs, ws, ea, eb, sm _ _ hl, sm _ _ hm, sz_of (by rw [← ha.len, ← hb.len]; exact h), fun p hn => k _ _ _ (.new sm hn) ⟨p, vs ++ ws, rfl, upd_same, (ha.app hb).mono (same_new (sm.free hn))⟩⟩
/-- isqrt -/
def isq (i : Int) : Int := ((Float64.isqrt i.toNat : Nat) : Int)
def rIsq : List V → Hp → VK → Prop := fun xs H Q => ∃ i : Int, xs = [.int i] ∧ 0 ≤ i ∧ i.natAbs.log2 ≤ 13000 ∧ Q (.int (isq i)) H
theorem cr_isqrt {X : Cx} : CallR X (.builtin "math.isqrt") rIsq := by
  intro pins s σ H vs us Q I r h
  obtain ⟨i, rfl, h0, h1, q⟩ := h
  obtain ⟨u, rfl, t, rfl⟩ := Vals.one r
  have e : i.toNat = i.natAbs := by omega
  have h2 : i.toNat.log2 ≤ 13000 := by rw [e]; exact h1
  exact call_function_meets PySem.W.MGF.kind_isqrt PySem.W.MGF.plain_isqrt PySem.W.MGF.entry_isqrt (PySem.W.MGF.args_isqrt _) (PySem.W.mg_run_isqrt i t (by omega) (by omega) (by omega)).meets ⟨.int (isq i), H, I.tok _, ⟨_, rfl⟩, q⟩
theorem r_isq {i : Int} (h0 : 0 ≤ i) (h1 : i.natAbs.log2 ≤ 13000) : RAG rIsq [PI i] (PI (isq i)) := fun xs H0 H sm h Q k => by
  obtain ⟨v, rfl, e⟩ := all1 h
  have e1 : v = .int i := e
  subst e1
  exact ⟨i, rfl, h0, h1, k _ H0 H (.refl sm) rfl⟩
end
end K9
set_option Elab.async false
set_option linter.all false
set_option maxRecDepth 100000
set_option maxHeartbeats 4000000
/-! K9M: the mirror of space, forces and ways, in plain Lean; bounds. -/
namespace K9
open L2
abbrev Iv := Int × Int
abbrev Box := Iv × Iv × Iv
abbrev Sta := Box × Box
def addI (a b : Iv) : Iv := (a.1 + b.1, a.2 + b.2)
def subI (a b : Iv) : Iv := (a.1 - b.2, a.2 - b.1)
def sclI (a : Iv) (n : Int) : Iv := if n < 0 then (a.2 * n, a.1 * n) else (a.1 * n, a.2 * n)
def mn4 (a b c d : Int) : Int := mn (mn (mn a b) c) d
def mx4 (a b c d : Int) : Int := mx (mx (mx a b) c) d
def mulI (a b : Iv) : Iv := (mn4 (a.1 * b.1) (a.1 * b.2) (a.2 * b.1) (a.2 * b.2), mx4 (a.1 * b.1) (a.1 * b.2) (a.2 * b.1) (a.2 * b.2))
def sqrI (a : Iv) : Iv := if 0 ≤ a.1 then (a.1 * a.1, a.2 * a.2) else if a.2 ≤ 0 then (a.2 * a.2, a.1 * a.1) else (0, mx (a.1 * a.1) (a.2 * a.2))
def quoI (a d : Iv) : Iv := (mn (a.1 / d.1) (a.1 / d.2), mx (a.2 / d.1) (a.2 / d.2))
def rootI (a : Iv) : Iv := (isq (mx a.1 0), isq a.2)
def meetI (a b : Iv) : Option Iv := if mn a.2 b.2 < mx a.1 b.1 then none else some (mx a.1 b.1, mn a.2 b.2)
def hullI (a b : Iv) : Iv := (mn a.1 b.1, mx a.2 b.2)
def widI (a : Iv) (w : Int) : Iv := (a.1 - w, a.2 + w)
def midI (a : Iv) : Int := (a.1 + a.2) / 2
def wdI (a : Iv) : Int := a.2 - a.1
def szI (a : Iv) : Int := mx (ab a.1) (ab a.2)
def addB (a b : Box) : Box := (addI a.1 b.1, addI a.2.1 b.2.1, addI a.2.2 b.2.2)
def hullB (a b : Box) : Box := (hullI a.1 b.1, hullI a.2.1 b.2.1, hullI a.2.2 b.2.2)
def widB (a : Box) (w : Int) : Box := (widI a.1 w, widI a.2.1 w, widI a.2.2 w)
def meetB (a b : Box) : Option Box := match meetI a.1 b.1, meetI a.2.1 b.2.1, meetI a.2.2 b.2.2 with
  | some x, some y, some z => some (x, y, z)
  | _, _, _ => none
def sqlB (b : Box) : Iv := addI (addI (sqrI b.1) (sqrI b.2.1)) (sqrI b.2.2)
def szB (b : Box) : Int := mx (mx (szI b.1) (szI b.2.1)) (szI b.2.2)
/-- one coordinate of the pull: c the coordinate's interval, k its factor -/
def pullI (mu obl : Int) (s d e height c : Iv) (k : Int) : Iv := addI (quoI (sclI c (-mu)) d) (quoI (sclI (mulI c (subI height (sclI s k))) obl) e)
def dOf (s : Iv) : Iv := mulI s (rootI s)
def eOf (s : Iv) : Iv := mulI (mulI s s) (dOf s)
def pullB (mu obl : Int) (b : Box) : Option Box :=
  if (sqlB b).1 = 0 then none else
    some (pullI mu obl (sqlB b) (dOf (sqlB b)) (eOf (sqlB b)) (sclI (sqrI b.2.2) 5) b.1 1, pullI mu obl (sqlB b) (dOf (sqlB b)) (eOf (sqlB b)) (sclI (sqrI b.2.2) 5) b.2.1 1, pullI mu obl (sqlB b) (dOf (sqlB b)) (eOf (sqlB b)) (sclI (sqrI b.2.2) 5) b.2.2 3)
def LIM : Int := 10 ^ 40
def stepS (mu obl : Int) (s : Sta) (push : Box) (drift : Int) : Option Sta := match pullB mu obl s.1 with
  | none => none
  | some a =>
    let v := widB (addB (addB s.2 a) push) drift
    let p := addB s.1 v
    if LIM < szB p ∨ LIM < szB v then none else some (p, v)
def cutS (s : Sta) (b : Box) : Option Sta := match meetB s.1 b with
  | none => none
  | some p => some (p, s.2)
def getB (b : Box) (k : Nat) : Iv := if k = 0 then b.1 else if k = 1 then b.2.1 else b.2.2
def putB (b : Box) (k : Nat) (i : Iv) : Box := (if k = 0 then i else b.1, if k = 1 then i else b.2.1, if k = 2 then i else b.2.2)
/-- the six intervals of a state -/
def ivs (s : Sta) : List Iv := [s.1.1, s.1.2.1, s.1.2.2, s.2.1, s.2.2.1, s.2.2.2]
def ivAt (s : Sta) (k : Nat) : Iv := (ivs s).getD k (0, 0)
/-- the first of the greatest width, of the first n + 1 -/
def widest (s : Sta) : Nat → Nat
  | 0 => 0
  | n + 1 => if wdI (ivAt s (widest s n)) < wdI (ivAt s (n + 1)) then n + 1 else widest s n
def halfS (s : Sta) (k : Nat) (h : Iv) : Sta := if k < 3 then (putB s.1 k h, s.2) else (s.1, putB s.2 (k - 3) h)
def splitS (s : Sta) : List Sta :=
  let k := widest s 5
  let i := ivAt s k
  if i.1 = i.2 then [s] else [halfS s k (i.1, midI i), halfS s k (midI i + 1, i.2)]
def partsS (s : Sta) : Nat → List Sta
  | 0 => [s]
  | n + 1 => (partsS s n).flatMap splitS

/-! ### numbers of n bits -/
def bd (n : Nat) (i : Int) : Prop := i.natAbs < 2 ^ n
theorem bd.mono {n m : Nat} {i : Int} (h : bd n i) (e : n ≤ m) : bd m i := Nat.lt_of_lt_of_le h (Nat.pow_le_pow_right (by decide) e)
theorem bd.mul {n m : Nat} {i j : Int} (h : bd n i) (k : bd m j) : bd (n + m) (i * j) := wide_lt h k
theorem bd.add {n : Nat} {i j : Int} (h : bd n i) (k : bd n j) : bd (n + 1) (i + j) := by
  unfold bd at *
  rw [Nat.pow_succ]
  omega
theorem bd.sub {n : Nat} {i j : Int} (h : bd n i) (k : bd n j) : bd (n + 1) (i - j) := by
  unfold bd at *
  rw [Nat.pow_succ]
  omega
theorem bd.neg {n : Nat} {i : Int} (h : bd n i) : bd n (-i) := by
  unfold bd at *
  omega
theorem bd.div {n : Nat} {i j : Int} (h : bd n i) (hj : 0 < j) : bd n (i / j) := by
  unfold bd at *
  have h1 : (i / j).natAbs ≤ i.natAbs := by
    have := Int.natAbs_ediv_le_natAbs i j
    exact this
  omega
theorem bd.mx {n : Nat} {i j : Int} (h : bd n i) (k : bd n j) : bd n (mx i j) := by
  unfold K9.mx
  split
  · exact k
  · exact h
theorem bd.mn {n : Nat} {i j : Int} (h : bd n i) (k : bd n j) : bd n (mn i j) := by
  unfold K9.mn
  split
  · exact k
  · exact h
theorem bd.ab {n : Nat} {i : Int} (h : bd n i) : bd n (ab i) := by
  unfold K9.ab
  split
  · exact h.neg
  · exact h
def bI (n : Nat) (a : Iv) : Prop := bd n a.1 ∧ bd n a.2
theorem bI.mono {n m : Nat} {a : Iv} (h : bI n a) (e : n ≤ m) : bI m a := ⟨h.1.mono e, h.2.mono e⟩
theorem bI.mul {n m : Nat} {a b : Iv} (h : bI n a) (k : bI m b) : bI (n + m) (mulI a b) :=
  ⟨((((h.1.mul k.1).mn (h.1.mul k.2)).mn (h.2.mul k.1)).mn (h.2.mul k.2)), ((((h.1.mul k.1).mx (h.1.mul k.2)).mx (h.2.mul k.1)).mx (h.2.mul k.2))⟩
theorem bI.add {n : Nat} {a b : Iv} (h : bI n a) (k : bI n b) : bI (n + 1) (addI a b) := ⟨h.1.add k.1, h.2.add k.2⟩
theorem bI.sub {n : Nat} {a b : Iv} (h : bI n a) (k : bI n b) : bI (n + 1) (subI a b) := ⟨h.1.sub k.2, h.2.sub k.1⟩
theorem bI.scl {n m : Nat} {a : Iv} {i : Int} (h : bI n a) (k : bd m i) : bI (n + m) (sclI a i) := by
  unfold sclI
  split
  · exact ⟨h.2.mul k, h.1.mul k⟩
  · exact ⟨h.1.mul k, h.2.mul k⟩
theorem bI.sqr {n : Nat} {a : Iv} (h : bI n a) : bI (n + n) (sqrI a) := by
  unfold sqrI
  split
  · exact ⟨h.1.mul h.1, h.2.mul h.2⟩
  · split
    · exact ⟨h.2.mul h.2, h.1.mul h.1⟩
    · exact ⟨by unfold bd; exact Nat.pow_pos (by decide), (h.1.mul h.1).mx (h.2.mul h.2)⟩
theorem isq_le (i : Int) (h : 0 ≤ i) : isq i ≤ i := by
  unfold isq
  have h1 := (PySem.Float64.isqrt_spec i.toNat).1
  have h2 : PySem.Float64.isqrt i.toNat ≤ PySem.Float64.isqrt i.toNat * PySem.Float64.isqrt i.toNat := Nat.le_mul_self _
  omega
theorem isq_nn (i : Int) : 0 ≤ isq i := by
  unfold isq
  omega
theorem isq_pos (i : Int) (h : 1 ≤ i) : 1 ≤ isq i := by
  unfold isq
  have h1 := (PySem.Float64.isqrt_spec i.toNat).2
  cases q : PySem.Float64.isqrt i.toNat with
  | zero =>
    rw [q] at h1
    omega
  | succ n => omega
theorem bd.isq {n : Nat} {i : Int} (h : bd n i) (h0 : 0 ≤ i) : bd n (isq i) := by
  have h1 := isq_le i h0
  have h2 := isq_nn i
  unfold bd at *
  omega
/-- low at most high -/
def vI (a : Iv) : Prop := a.1 ≤ a.2
def vB (b : Box) : Prop := vI b.1 ∧ vI b.2.1 ∧ vI b.2.2
def bB (n : Nat) (b : Box) : Prop := bI n b.1 ∧ bI n b.2.1 ∧ bI n b.2.2
theorem mx_l (i j : Int) : i ≤ mx i j := by unfold mx; split <;> omega
theorem mx_r (i j : Int) : j ≤ mx i j := by unfold mx; split <;> omega
theorem mx_le {i j k : Int} (h : i ≤ k) (h' : j ≤ k) : mx i j ≤ k := by unfold mx; split <;> omega
theorem mn_l (i j : Int) : mn i j ≤ i := by unfold mn; split <;> omega
theorem mn_r (i j : Int) : mn i j ≤ j := by unfold mn; split <;> omega
theorem le_mn {i j k : Int} (h : k ≤ i) (h' : k ≤ j) : k ≤ mn i j := by unfold mn; split <;> omega
theorem mx_nn {i j : Int} (h : 1 ≤ i) : 1 ≤ mx i j := Int.le_trans h (mx_l i j)
theorem sqr_nn (i : Int) : 0 ≤ i * i := by
  rcases Int.le_total 0 i with h | h
  · exact Int.mul_nonneg h h
  · have := Int.mul_nonneg (Int.neg_nonneg_of_nonpos h) (Int.neg_nonneg_of_nonpos h)
    rw [Int.neg_mul_neg] at this
    exact this
theorem sqrI_v {a : Iv} (h : vI a) : 0 ≤ (sqrI a).1 ∧ vI (sqrI a) := by
  unfold vI at *
  unfold sqrI
  split
  · rename_i h0
    exact ⟨sqr_nn _, Int.mul_le_mul h h h0 (by omega)⟩
  · split
    · rename_i h0 h1
      refine ⟨sqr_nn _, ?_⟩
      have e := Int.mul_le_mul (show -a.2 ≤ -a.1 by omega) (show -a.2 ≤ -a.1 by omega) (show 0 ≤ -a.2 by omega) (show 0 ≤ -a.1 by omega)
      rw [Int.neg_mul_neg, Int.neg_mul_neg] at e
      exact e
    · exact ⟨Int.le_refl _, Int.le_trans (sqr_nn _) (mx_l _ _)⟩
theorem sqlB_v {b : Box} (h : vB b) : 0 ≤ (sqlB b).1 ∧ vI (sqlB b) := by
  obtain ⟨h1, h2, h3⟩ := h
  obtain ⟨a1, a2⟩ := sqrI_v h1
  obtain ⟨b1, b2⟩ := sqrI_v h2
  obtain ⟨c1, c2⟩ := sqrI_v h3
  unfold vI at *
  unfold sqlB addI
  constructor
  · show 0 ≤ _ + _ + _
    omega
  · show _ + _ + _ ≤ _ + _ + _
    omega
theorem pos_mul {i j : Int} (h : 1 ≤ i) (k : 1 ≤ j) : 1 ≤ i * j := by
  have := Int.mul_le_mul h k (by decide) (by omega)
  simpa using this
theorem mulI_pos {a b : Iv} (h1 : 1 ≤ a.1) (h2 : 1 ≤ a.2) (h3 : 1 ≤ b.1) (h4 : 1 ≤ b.2) : 1 ≤ (mulI a b).1 ∧ 1 ≤ (mulI a b).2 := by
  unfold mulI
  exact ⟨le_mn (le_mn (le_mn (pos_mul h1 h3) (pos_mul h1 h4)) (pos_mul h2 h3)) (pos_mul h2 h4), mx_nn (mx_nn (mx_nn (pos_mul h1 h3)))⟩
theorem rootI_pos {s : Iv} (h1 : 1 ≤ s.1) (h2 : 1 ≤ s.2) : 1 ≤ (rootI s).1 ∧ 1 ≤ (rootI s).2 := by
  unfold rootI
  exact ⟨isq_pos _ (mx_nn h1), isq_pos _ h2⟩
theorem dOf_pos {s : Iv} (h1 : 1 ≤ s.1) (h2 : 1 ≤ s.2) : 1 ≤ (dOf s).1 ∧ 1 ≤ (dOf s).2 := mulI_pos h1 h2 (rootI_pos h1 h2).1 (rootI_pos h1 h2).2
theorem eOf_pos {s : Iv} (h1 : 1 ≤ s.1) (h2 : 1 ≤ s.2) : 1 ≤ (eOf s).1 ∧ 1 ≤ (eOf s).2 := mulI_pos (mulI_pos h1 h2 h1 h2).1 (mulI_pos h1 h2 h1 h2).2 (dOf_pos h1 h2).1 (dOf_pos h1 h2).2
theorem bd0 {n : Nat} : bd n 0 := by unfold bd; exact Nat.pow_pos (by decide)
theorem rootI_b {n : Nat} {s : Iv} (h : bI n s) (h1 : 0 ≤ s.1) (h2 : 0 ≤ s.2) : bI n (rootI s) := ⟨(h.1.mx bd0).isq (Int.le_trans h1 (mx_l _ _)), h.2.isq h2⟩
theorem addI_v {a b : Iv} (h : vI a) (k : vI b) : vI (addI a b) := by
  unfold vI addI at *
  show _ + _ ≤ _ + _
  omega
theorem sclI_v {a : Iv} {n : Int} (h : vI a) : vI (sclI a n) := by
  unfold vI sclI at *
  split
  · rename_i hn
    exact Int.mul_le_mul_of_nonpos_right h (by omega)
  · rename_i hn
    exact Int.mul_le_mul_of_nonneg_right h (by omega)
theorem mulI_v {a b : Iv} : vI (mulI a b) := by
  unfold vI mulI mn4 mx4
  exact Int.le_trans (mn_r _ _) (mx_r _ _)
theorem quoI_v {a d : Iv} (h : vI a) (hd : 0 < d.1) : vI (quoI a d) := by
  unfold vI quoI at *
  exact Int.le_trans (mn_l _ _) (Int.le_trans (Int.ediv_le_ediv hd h) (mx_l _ _))
theorem pullB_v {mu obl : Int} {b a : Box} (h : vB b) (e : pullB mu obl b = some a) : vB a := by
  obtain ⟨n1, n2⟩ := sqlB_v h
  unfold pullB at e
  split at e
  · cases e
  · rename_i hz
    have p1 : 1 ≤ (sqlB b).1 := by omega
    have p2 : 1 ≤ (sqlB b).2 := Int.le_trans p1 n2
    have q1 := (dOf_pos p1 p2).1
    have q2 := (eOf_pos p1 p2).1
    have e' := Option.some.inj e
    subst e'
    obtain ⟨h1, h2, h3⟩ := h
    have go : ∀ {c height : Iv} {k : Int}, vI c → vI (pullI mu obl (sqlB b) (dOf (sqlB b)) (eOf (sqlB b)) height c k) := fun hc =>
      addI_v (quoI_v (sclI_v hc) (by omega)) (quoI_v (sclI_v mulI_v) (by omega))
    exact ⟨go h1, go h2, go h3⟩
/-- a state within the limit -/
def okB (b : Box) : Prop := vB b ∧ bB 134 b
def okS (s : Sta) : Prop := okB s.1 ∧ okB s.2
theorem lim_bd {i : Int} (h : ab i ≤ LIM) : bd 134 i := by
  unfold ab at h
  unfold bd
  have e : (LIM : Int) < 2 ^ 134 := by unfold LIM; decide
  split at h <;> omega
theorem szI_bd {a : Iv} (h : szI a ≤ LIM) : bI 134 a := by
  unfold szI at h
  exact ⟨lim_bd (Int.le_trans (mx_l _ _) h), lim_bd (Int.le_trans (mx_r _ _) h)⟩
theorem szB_bd {b : Box} (h : szB b ≤ LIM) : bB 134 b := by
  unfold szB at h
  exact ⟨szI_bd (Int.le_trans (mx_l _ _) (Int.le_trans (mx_l _ _) h)), szI_bd (Int.le_trans (mx_r _ _) (Int.le_trans (mx_l _ _) h)), szI_bd (Int.le_trans (mx_r _ _) h)⟩
theorem addB_v {a b : Box} (h : vB a) (k : vB b) : vB (addB a b) := ⟨addI_v h.1 k.1, addI_v h.2.1 k.2.1, addI_v h.2.2 k.2.2⟩
theorem widI_v {a : Iv} {w : Int} (h : vI a) (k : 0 ≤ w) : vI (widI a w) := by
  unfold vI widI at *
  show _ - _ ≤ _ + _
  omega
theorem widB_v {a : Box} {w : Int} (h : vB a) (k : 0 ≤ w) : vB (widB a w) := ⟨widI_v h.1 k, widI_v h.2.1 k, widI_v h.2.2 k⟩
theorem stepS_ok {mu obl drift : Int} {s s' : Sta} {push : Box} (h : okS s) (hp : vB push) (hd : 0 ≤ drift) (e : stepS mu obl s push drift = some s') : okS s' := by
  unfold stepS at e
  cases q : pullB mu obl s.1 with
  | none =>
    rw [q] at e
    cases e
  | some a =>
    rw [q] at e
    have va := pullB_v h.1.1 q
    have vv : vB (widB (addB (addB s.2 a) push) drift) := widB_v (addB_v (addB_v h.2.1 va) hp) hd
    have vp := addB_v h.1.1 vv
    simp only at e
    split at e
    · cases e
    · rename_i hl
      have e' := Option.some.inj e
      subst e'
      exact ⟨⟨vp, szB_bd (Int.not_lt.mp fun z => hl (.inl z))⟩, vv, szB_bd (Int.not_lt.mp fun z => hl (.inr z))⟩
theorem meetI_ok {n : Nat} {a b c : Iv} (h : bI n a) (k : bI n b) (e : meetI a b = some c) : vI c ∧ bI n c := by
  unfold meetI at e
  split at e
  · cases e
  · have e' := Option.some.inj e
    subst e'
    refine ⟨?_, h.1.mx k.1, h.2.mn k.2⟩
    unfold vI
    show mx _ _ ≤ mn _ _
    omega
theorem meetB_ok {n : Nat} {a b c : Box} (h : bB n a) (k : bB n b) (e : meetB a b = some c) : vB c ∧ bB n c := by
  unfold meetB at e
  split at e
  · rename_i x y z hx hy hz
    have e' := Option.some.inj e
    subst e'
    have h1 := meetI_ok h.1 k.1 hx
    have h2 := meetI_ok h.2.1 k.2.1 hy
    have h3 := meetI_ok h.2.2 k.2.2 hz
    exact ⟨⟨h1.1, h2.1, h3.1⟩, h1.2, h2.2, h3.2⟩
  · cases e
theorem cutS_ok {s s' : Sta} {b : Box} (h : okS s) (k : bB 134 b) (e : cutS s b = some s') : okS s' := by
  unfold cutS at e
  cases q : meetB s.1 b with
  | none =>
    rw [q] at e
    cases e
  | some p =>
    rw [q] at e
    have e' := Option.some.inj e
    subst e'
    exact ⟨meetB_ok h.1.2 k q, h.2⟩
theorem putB_ok {b : Box} {k : Nat} {i : Iv} (h : okB b) (hi : vI i ∧ bI 134 i) : okB (putB b k i) := by
  obtain ⟨⟨a1, a2, a3⟩, b1, b2, b3⟩ := h
  have go : ∀ {j : Nat} {a : Iv}, vI a → vI (if k = j then i else a) := fun h => by
    split
    · exact hi.1
    · exact h
  have go2 : ∀ {j : Nat} {a : Iv}, bI 134 a → bI 134 (if k = j then i else a) := fun h => by
    split
    · exact hi.2
    · exact h
  exact ⟨⟨go a1, go a2, go a3⟩, go2 b1, go2 b2, go2 b3⟩
theorem ivAt_ok {s : Sta} (h : okS s) {k : Nat} (hk : k < 6) : vI (ivAt s k) ∧ bI 134 (ivAt s k) := by
  obtain ⟨⟨⟨a1, a2, a3⟩, b1, b2, b3⟩, ⟨c1, c2, c3⟩, d1, d2, d3⟩ := h
  match k, hk with
  | 0, _ => exact ⟨a1, b1⟩
  | 1, _ => exact ⟨a2, b2⟩
  | 2, _ => exact ⟨a3, b3⟩
  | 3, _ => exact ⟨c1, d1⟩
  | 4, _ => exact ⟨c2, d2⟩
  | 5, _ => exact ⟨c3, d3⟩
theorem widest_le (s : Sta) : ∀ n, widest s n ≤ n
  | 0 => Nat.le_refl _
  | n + 1 => by
    unfold widest
    split
    · exact Nat.le_refl _
    · exact Nat.le_succ_of_le (widest_le s n)
theorem splitS_ok {s x : Sta} (h : okS s) (hx : x ∈ splitS s) : okS x := by
  unfold splitS at hx
  simp only at hx
  have hk : widest s 5 < 6 := Nat.lt_succ_of_le (widest_le s 5)
  obtain ⟨hv, h1, h2⟩ := ivAt_ok h hk
  generalize widest s 5 = k at *
  generalize ivAt s k = i at *
  split at hx
  · have e : x = s := by simpa using hx
    rw [e]
    exact h
  · rename_i hne
    have go : ∀ j : Iv, vI j ∧ bI 134 j → okS (halfS s k j) := fun j hj => by
      unfold halfS
      split
      · exact ⟨putB_ok h.1 hj, h.2⟩
      · exact ⟨h.1, putB_ok h.2 hj⟩
    unfold vI at hv
    have hm : i.1 ≤ midI i ∧ midI i + 1 ≤ i.2 := by
      unfold midI
      omega
    have hbm : bd 134 (midI i) ∧ bd 134 (midI i + 1) := by
      unfold bd at *
      omega
    rcases List.mem_cons.mp hx with e | hx
    · rw [e]
      exact go _ ⟨hm.1, h1, hbm.1⟩
    · have e : x = halfS s k (midI i + 1, i.2) := by simpa using hx
      rw [e]
      exact go _ ⟨hm.2, hbm.2, h2⟩
theorem partsS_ok {s : Sta} (h : okS s) : ∀ n, ∀ x ∈ partsS s n, okS x
  | 0, x, hx => by
    have e : x = s := by simpa [partsS] using hx
    rw [e]
    exact h
  | n + 1, x, hx => by
    unfold partsS at hx
    obtain ⟨y, hy, hx⟩ := List.mem_flatMap.mp hx
    exact splitS_ok (partsS_ok h n y hy) hx
theorem splitS_len (s : Sta) : (splitS s).length ≤ 2 := by
  unfold splitS
  simp only
  split <;> simp
theorem flat_len {A B : Type} (f : A → List B) (c : Nat) (h : ∀ a, (f a).length ≤ c) : ∀ l : List A, (l.flatMap f).length ≤ c * l.length
  | [] => by simp
  | a :: l => by
    rw [List.flatMap_cons, List.length_append, List.length_cons]
    have h1 := h a
    have h2 := flat_len f c h l
    rw [Nat.mul_succ]
    omega
theorem partsS_len (s : Sta) : ∀ n, (partsS s n).length ≤ 2 ^ n
  | 0 => by simp [partsS]
  | n + 1 => by
    unfold partsS
    have h1 := flat_len splitS 2 splitS_len (partsS s n)
    have h2 := partsS_len s n
    rw [Nat.pow_succ]
    omega
end K9
set_option Elab.async false
set_option linter.all false
set_option maxRecDepth 100000
set_option maxHeartbeats 4000000
/-! K9T: the text by places; what is asked of the head. Printed by gentext.py. -/
namespace K9
open PySem PySem.Spec PyProof.Rows L2
def top (i : Nat) : Stmt := PySem.Challenge.pw_orrery_k90_whole_edits_and_undos.main.body.getD i (.Pass ⟨0, 0, 0, 0⟩)
abbrev S_find_named : Stmt := top 12
abbrev N_find_named : List Str := ["rows", "name", "row"]
theorem sc_find_named : FnScope N_find_named ["rows", "name"] (defScope S_find_named) := ⟨rfl, rfl, rfl, by decide +kernel, rfl, by decide +kernel, by decide +kernel⟩
abbrev S_put_named : Stmt := top 13
abbrev N_put_named : List Str := ["rows", "thing", "row", "before", "after"]
theorem sc_put_named : FnScope N_put_named ["rows", "thing"] (defScope S_put_named) := ⟨rfl, rfl, rfl, by decide +kernel, rfl, by decide +kernel, by decide +kernel⟩
abbrev S_drop_named : Stmt := top 14
abbrev N_drop_named : List Str := ["rows", "name", "row"]
theorem sc_drop_named : FnScope N_drop_named ["rows", "name"] (defScope S_drop_named) := ⟨rfl, rfl, rfl, by decide +kernel, rfl, by decide +kernel, by decide +kernel⟩
abbrev S_craft_of : Stmt := top 15
abbrev N_craft_of : List Str := ["contents", "name", "craft"]
theorem sc_craft_of : FnScope N_craft_of ["contents", "name"] (defScope S_craft_of) := ⟨rfl, rfl, rfl, by decide +kernel, rfl, by decide +kernel, by decide +kernel⟩
abbrev S_site_of : Stmt := top 16
abbrev N_site_of : List Str := ["contents", "name", "site"]
theorem sc_site_of : FnScope N_site_of ["contents", "name"] (defScope S_site_of) := ⟨rfl, rfl, rfl, by decide +kernel, rfl, by decide +kernel, by decide +kernel⟩
abbrev S_check : Stmt := top 21
abbrev N_check : List Str := ["good", "name"]
theorem sc_check : FnScope N_check ["good", "name"] (defScope S_check) := ⟨rfl, rfl, rfl, by decide +kernel, rfl, by decide +kernel, by decide +kernel⟩
abbrev S_is_name : Stmt := top 22
abbrev N_is_name : List Str := ["text", "char"]
theorem sc_is_name : FnScope N_is_name ["text"] (defScope S_is_name) := ⟨rfl, rfl, rfl, by decide +kernel, rfl, by decide +kernel, by decide +kernel⟩
abbrev S_is_tick : Stmt := top 23
abbrev N_is_tick : List Str := ["number"]
theorem sc_is_tick : FnScope N_is_tick ["number"] (defScope S_is_tick) := ⟨rfl, rfl, rfl, by decide +kernel, rfl, by decide +kernel, by decide +kernel⟩
abbrev S_is_box : Stmt := top 24
abbrev N_is_box : List Str := ["box", "most", "low", "high"]
theorem sc_is_box : FnScope N_is_box ["box", "most"] (defScope S_is_box) := ⟨rfl, rfl, rfl, by decide +kernel, rfl, by decide +kernel, by decide +kernel⟩
abbrev S_Body_init : Stmt := inClass (top 25) 0
abbrev N_Body_init : List Str := ["self", "mu", "oblateness", "turn", "a", "b", "n"]
theorem sc_Body_init : FnScope N_Body_init ["self", "mu", "oblateness", "turn"] (defScope S_Body_init) := ⟨rfl, rfl, rfl, by decide +kernel, rfl, by decide +kernel, by decide +kernel⟩
abbrev S_Burn_init : Stmt := inClass (top 26) 0
abbrev N_Burn_init : List Str := ["self", "begin", "end", "push"]
theorem sc_Burn_init : FnScope N_Burn_init ["self", "begin", "end", "push"] (defScope S_Burn_init) := ⟨rfl, rfl, rfl, by decide +kernel, rfl, by decide +kernel, by decide +kernel⟩
abbrev S_Sighting_init : Stmt := inClass (top 27) 0
abbrev N_Sighting_init : List Str := ["self", "at", "place"]
theorem sc_Sighting_init : FnScope N_Sighting_init ["self", "at", "place"] (defScope S_Sighting_init) := ⟨rfl, rfl, rfl, by decide +kernel, rfl, by decide +kernel, by decide +kernel⟩
abbrev S_Craft_init : Stmt := inClass (top 28) 0
abbrev N_Craft_init : List Str := ["self", "name", "start", "place", "speed", "drift", "burns", "sightings"]
theorem sc_Craft_init : FnScope N_Craft_init ["self", "name", "start", "place", "speed", "drift", "burns", "sightings"] (defScope S_Craft_init) := ⟨rfl, rfl, rfl, by decide +kernel, rfl, by decide +kernel, by decide +kernel⟩
abbrev S_Site_init : Stmt := inClass (top 29) 0
abbrev N_Site_init : List Str := ["self", "name", "place", "good", "number"]
theorem sc_Site_init : FnScope N_Site_init ["self", "name", "place"] (defScope S_Site_init) := ⟨rfl, rfl, rfl, by decide +kernel, rfl, by decide +kernel, by decide +kernel⟩
abbrev S_Contents_init : Stmt := inClass (top 30) 0
abbrev N_Contents_init : List Str := ["self", "body", "stride", "fineness", "crafts", "sites"]
theorem sc_Contents_init : FnScope N_Contents_init ["self", "body", "stride", "fineness", "crafts", "sites"] (defScope S_Contents_init) := ⟨rfl, rfl, rfl, by decide +kernel, rfl, by decide +kernel, by decide +kernel⟩
abbrev S_same_craft : Stmt := top 31
abbrev N_same_craft : List Str := ["first", "second"]
theorem sc_same_craft : FnScope N_same_craft ["first", "second"] (defScope S_same_craft) := ⟨rfl, rfl, rfl, by decide +kernel, rfl, by decide +kernel, by decide +kernel⟩
abbrev S_craft_data : Stmt := top 32
abbrev N_craft_data : List Str := ["craft", "burn", "burns", "sighting", "sightings"]
theorem sc_craft_data : FnScope N_craft_data ["craft"] (defScope S_craft_data) := ⟨rfl, rfl, rfl, by decide +kernel, rfl, by decide +kernel, by decide +kernel⟩
abbrev S_body_data : Stmt := top 33
abbrev N_body_data : List Str := ["body"]
theorem sc_body_data : FnScope N_body_data ["body"] (defScope S_body_data) := ⟨rfl, rfl, rfl, by decide +kernel, rfl, by decide +kernel, by decide +kernel⟩
abbrev S_entries : Stmt := top 35
abbrev N_entries : List Str := ["craft", "burn", "burns", "sighting", "sightings"]
theorem sc_entries : FnScope N_entries ["craft"] (defScope S_entries) := ⟨rfl, rfl, rfl, by decide +kernel, rfl, by decide +kernel, by decide +kernel⟩
abbrev S_first_difference : Stmt := top 36
abbrev N_first_difference : List Str := ["rows", "others", "at"]
theorem sc_first_difference : FnScope N_first_difference ["rows", "others"] (defScope S_first_difference) := ⟨rfl, rfl, rfl, by decide +kernel, rfl, by decide +kernel, by decide +kernel⟩
abbrev S_touched_at : Stmt := top 37
abbrev N_touched_at : List Str := ["before", "after", "ticks", "rows", "others", "tick"]
theorem sc_touched_at : FnScope N_touched_at ["before", "after"] (defScope S_touched_at) := ⟨rfl, rfl, rfl, by decide +kernel, rfl, by decide +kernel, by decide +kernel⟩
abbrev S_rules_differ : Stmt := top 38
abbrev N_rules_differ : List Str := ["before", "after"]
theorem sc_rules_differ : FnScope N_rules_differ ["before", "after"] (defScope S_rules_differ) := ⟨rfl, rfl, rfl, by decide +kernel, rfl, by decide +kernel, by decide +kernel⟩
abbrev S_touched_crafts : Stmt := top 39
abbrev N_touched_crafts : List Str := ["before", "after", "result", "all_touched", "craft", "old"]
theorem sc_touched_crafts : FnScope N_touched_crafts ["before", "after"] (defScope S_touched_crafts) := ⟨rfl, rfl, rfl, by decide +kernel, rfl, by decide +kernel, by decide +kernel⟩
abbrev S_touched_sites : Stmt := top 40
abbrev N_touched_sites : List Str := ["before", "after", "turned", "result", "site", "old"]
theorem sc_touched_sites : FnScope N_touched_sites ["before", "after"] (defScope S_touched_sites) := ⟨rfl, rfl, rfl, by decide +kernel, rfl, by decide +kernel, by decide +kernel⟩
abbrev S_gone : Stmt := top 41
abbrev N_gone : List Str := ["rows", "others", "row"]
theorem sc_gone : FnScope N_gone ["rows", "others"] (defScope S_gone) := ⟨rfl, rfl, rfl, by decide +kernel, rfl, by decide +kernel, by decide +kernel⟩
abbrev S_differences : Stmt := top 42
abbrev N_differences : List Str := ["before", "after", "crafts", "sites"]
theorem sc_differences : FnScope N_differences ["before", "after"] (defScope S_differences) := ⟨rfl, rfl, rfl, by decide +kernel, rfl, by decide +kernel, by decide +kernel⟩
abbrev S_with_crafts : Stmt := top 47
abbrev N_with_crafts : List Str := ["contents", "crafts"]
theorem sc_with_crafts : FnScope N_with_crafts ["contents", "crafts"] (defScope S_with_crafts) := ⟨rfl, rfl, rfl, by decide +kernel, rfl, by decide +kernel, by decide +kernel⟩
abbrev S_with_sites : Stmt := top 48
abbrev N_with_sites : List Str := ["contents", "sites"]
theorem sc_with_sites : FnScope N_with_sites ["contents", "sites"] (defScope S_with_sites) := ⟨rfl, rfl, rfl, by decide +kernel, rfl, by decide +kernel, by decide +kernel⟩
abbrev S_changed_craft : Stmt := top 49
abbrev N_changed_craft : List Str := ["contents", "craft", "drift", "burns", "sightings", "new"]
theorem sc_changed_craft : FnScope N_changed_craft ["contents", "craft", "drift", "burns", "sightings"] (defScope S_changed_craft) := ⟨rfl, rfl, rfl, by decide +kernel, rfl, by decide +kernel, by decide +kernel⟩
abbrev S_add_craft : Stmt := top 50
abbrev N_add_craft : List Str := ["contents", "craft", "new"]
theorem sc_add_craft : FnScope N_add_craft ["contents", "craft"] (defScope S_add_craft) := ⟨rfl, rfl, rfl, by decide +kernel, rfl, by decide +kernel, by decide +kernel⟩
abbrev S_drop_craft : Stmt := top 51
abbrev N_drop_craft : List Str := ["contents", "name"]
theorem sc_drop_craft : FnScope N_drop_craft ["contents", "name"] (defScope S_drop_craft) := ⟨rfl, rfl, rfl, by decide +kernel, rfl, by decide +kernel, by decide +kernel⟩
abbrev S_set_drift : Stmt := top 52
abbrev N_set_drift : List Str := ["contents", "name", "drift", "craft"]
theorem sc_set_drift : FnScope N_set_drift ["contents", "name", "drift"] (defScope S_set_drift) := ⟨rfl, rfl, rfl, by decide +kernel, rfl, by decide +kernel, by decide +kernel⟩
abbrev S_add_burn : Stmt := top 53
abbrev N_add_burn : List Str := ["contents", "name", "burn", "craft", "other", "others", "before", "after"]
theorem sc_add_burn : FnScope N_add_burn ["contents", "name", "burn"] (defScope S_add_burn) := ⟨rfl, rfl, rfl, by decide +kernel, rfl, by decide +kernel, by decide +kernel⟩
abbrev S_drop_burn : Stmt := top 54
abbrev N_drop_burn : List Str := ["contents", "name", "begin", "craft", "burn", "others"]
theorem sc_drop_burn : FnScope N_drop_burn ["contents", "name", "begin"] (defScope S_drop_burn) := ⟨rfl, rfl, rfl, by decide +kernel, rfl, by decide +kernel, by decide +kernel⟩
abbrev S_add_sighting : Stmt := top 55
abbrev N_add_sighting : List Str := ["contents", "name", "sighting", "craft", "other", "others", "before", "after"]
theorem sc_add_sighting : FnScope N_add_sighting ["contents", "name", "sighting"] (defScope S_add_sighting) := ⟨rfl, rfl, rfl, by decide +kernel, rfl, by decide +kernel, by decide +kernel⟩
abbrev S_drop_sighting : Stmt := top 56
abbrev N_drop_sighting : List Str := ["contents", "name", "at", "craft", "sighting", "others"]
theorem sc_drop_sighting : FnScope N_drop_sighting ["contents", "name", "at"] (defScope S_drop_sighting) := ⟨rfl, rfl, rfl, by decide +kernel, rfl, by decide +kernel, by decide +kernel⟩
abbrev S_add_site : Stmt := top 57
abbrev N_add_site : List Str := ["contents", "site"]
theorem sc_add_site : FnScope N_add_site ["contents", "site"] (defScope S_add_site) := ⟨rfl, rfl, rfl, by decide +kernel, rfl, by decide +kernel, by decide +kernel⟩
abbrev S_drop_site : Stmt := top 58
abbrev N_drop_site : List Str := ["contents", "name"]
theorem sc_drop_site : FnScope N_drop_site ["contents", "name"] (defScope S_drop_site) := ⟨rfl, rfl, rfl, by decide +kernel, rfl, by decide +kernel, by decide +kernel⟩
abbrev S_set_stride : Stmt := top 60
abbrev N_set_stride : List Str := ["contents", "stride"]
theorem sc_set_stride : FnScope N_set_stride ["contents", "stride"] (defScope S_set_stride) := ⟨rfl, rfl, rfl, by decide +kernel, rfl, by decide +kernel, by decide +kernel⟩
abbrev S_set_fineness : Stmt := top 61
abbrev N_set_fineness : List Str := ["contents", "fineness"]
theorem sc_set_fineness : FnScope N_set_fineness ["contents", "fineness"] (defScope S_set_fineness) := ⟨rfl, rfl, rfl, by decide +kernel, rfl, by decide +kernel, by decide +kernel⟩
abbrev S_apply_edit : Stmt := top 64
abbrev N_apply_edit : List Str := ["contents", "edit", "word", "one", "two"]
theorem sc_apply_edit : FnScope N_apply_edit ["contents", "edit"] (defScope S_apply_edit) := ⟨rfl, rfl, rfl, by decide +kernel, rfl, by decide +kernel, by decide +kernel⟩
abbrev S_Catalogue_init : Stmt := inClass (top 67) 0
abbrev N_Catalogue_init : List Str := ["self", "contents"]
theorem sc_Catalogue_init : FnScope N_Catalogue_init ["self", "contents"] (defScope S_Catalogue_init) := ⟨rfl, rfl, rfl, by decide +kernel, rfl, by decide +kernel, by decide +kernel⟩
abbrev S_Catalogue_edit : Stmt := inClass (top 67) 1
abbrev N_Catalogue_edit : List Str := ["self", "edit", "after", "told"]
theorem sc_Catalogue_edit : FnScope N_Catalogue_edit ["self", "edit"] (defScope S_Catalogue_edit) := ⟨rfl, rfl, rfl, by decide +kernel, rfl, by decide +kernel, by decide +kernel⟩
abbrev S_Catalogue_undo : Stmt := inClass (top 67) 2
abbrev N_Catalogue_undo : List Str := ["self", "before", "told"]
theorem sc_Catalogue_undo : FnScope N_Catalogue_undo ["self"] (defScope S_Catalogue_undo) := ⟨rfl, rfl, rfl, by decide +kernel, rfl, by decide +kernel, by decide +kernel⟩
abbrev S_write_line : Stmt := top 69
abbrev N_write_line : List Str := ["words"]
theorem sc_write_line : FnScope N_write_line ["words"] (defScope S_write_line) := ⟨rfl, rfl, rfl, by decide +kernel, rfl, by decide +kernel, by decide +kernel⟩
abbrev S_box_numbers : Stmt := top 70
abbrev N_box_numbers : List Str := ["box"]
theorem sc_box_numbers : FnScope N_box_numbers ["box"] (defScope S_box_numbers) := ⟨rfl, rfl, rfl, by decide +kernel, rfl, by decide +kernel, by decide +kernel⟩
abbrev S_texts : Stmt := top 73
abbrev N_texts : List Str := ["numbers", "number"]
theorem sc_texts : FnScope N_texts ["numbers"] (defScope S_texts) := ⟨rfl, rfl, rfl, by decide +kernel, rfl, by decide +kernel, by decide +kernel⟩
abbrev S_craft_lines : Stmt := top 74
abbrev N_craft_lines : List Str := ["craft", "lines", "burn", "sighting"]
theorem sc_craft_lines : FnScope N_craft_lines ["craft"] (defScope S_craft_lines) := ⟨rfl, rfl, rfl, by decide +kernel, rfl, by decide +kernel, by decide +kernel⟩
abbrev S_head_lines : Stmt := top 75
abbrev N_head_lines : List Str := ["contents", "body", "a", "b", "n", "lines"]
theorem sc_head_lines : FnScope N_head_lines ["contents"] (defScope S_head_lines) := ⟨rfl, rfl, rfl, by decide +kernel, rfl, by decide +kernel, by decide +kernel⟩
abbrev S_saved_text : Stmt := top 76
abbrev N_saved_text : List Str := ["contents", "lines", "craft", "site", "x", "y", "z"]
theorem sc_saved_text : FnScope N_saved_text ["contents"] (defScope S_saved_text) := ⟨rfl, rfl, rfl, by decide +kernel, rfl, by decide +kernel, by decide +kernel⟩
abbrev S_add : Stmt := top 78
abbrev N_add : List Str := ["a", "b"]
theorem sc_add : FnScope N_add ["a", "b"] (defScope S_add) := ⟨rfl, rfl, rfl, by decide +kernel, rfl, by decide +kernel, by decide +kernel⟩
abbrev S_subtract : Stmt := top 79
abbrev N_subtract : List Str := ["a", "b"]
theorem sc_subtract : FnScope N_subtract ["a", "b"] (defScope S_subtract) := ⟨rfl, rfl, rfl, by decide +kernel, rfl, by decide +kernel, by decide +kernel⟩
abbrev S_scaled : Stmt := top 80
abbrev N_scaled : List Str := ["a", "n"]
theorem sc_scaled : FnScope N_scaled ["a", "n"] (defScope S_scaled) := ⟨rfl, rfl, rfl, by decide +kernel, rfl, by decide +kernel, by decide +kernel⟩
abbrev S_multiply : Stmt := top 81
abbrev N_multiply : List Str := ["a", "b", "ends"]
theorem sc_multiply : FnScope N_multiply ["a", "b"] (defScope S_multiply) := ⟨rfl, rfl, rfl, by decide +kernel, rfl, by decide +kernel, by decide +kernel⟩
abbrev S_square : Stmt := top 82
abbrev N_square : List Str := ["a"]
theorem sc_square : FnScope N_square ["a"] (defScope S_square) := ⟨rfl, rfl, rfl, by decide +kernel, rfl, by decide +kernel, by decide +kernel⟩
abbrev S_quotient : Stmt := top 83
abbrev N_quotient : List Str := ["a", "d", "low"]
theorem sc_quotient : FnScope N_quotient ["a", "d"] (defScope S_quotient) := ⟨rfl, rfl, rfl, by decide +kernel, rfl, by decide +kernel, by decide +kernel⟩
abbrev S_root : Stmt := top 84
abbrev N_root : List Str := ["a"]
theorem sc_root : FnScope N_root ["a"] (defScope S_root) := ⟨rfl, rfl, rfl, by decide +kernel, rfl, by decide +kernel, by decide +kernel⟩
abbrev S_meet : Stmt := top 85
abbrev N_meet : List Str := ["a", "b", "low", "high"]
theorem sc_meet : FnScope N_meet ["a", "b"] (defScope S_meet) := ⟨rfl, rfl, rfl, by decide +kernel, rfl, by decide +kernel, by decide +kernel⟩
abbrev S_hull : Stmt := top 86
abbrev N_hull : List Str := ["a", "b"]
theorem sc_hull : FnScope N_hull ["a", "b"] (defScope S_hull) := ⟨rfl, rfl, rfl, by decide +kernel, rfl, by decide +kernel, by decide +kernel⟩
abbrev S_widened : Stmt := top 87
abbrev N_widened : List Str := ["a", "w"]
theorem sc_widened : FnScope N_widened ["a", "w"] (defScope S_widened) := ⟨rfl, rfl, rfl, by decide +kernel, rfl, by decide +kernel, by decide +kernel⟩
abbrev S_middle : Stmt := top 88
abbrev N_middle : List Str := ["a"]
theorem sc_middle : FnScope N_middle ["a"] (defScope S_middle) := ⟨rfl, rfl, rfl, by decide +kernel, rfl, by decide +kernel, by decide +kernel⟩
abbrev S_width : Stmt := top 89
abbrev N_width : List Str := ["a"]
theorem sc_width : FnScope N_width ["a"] (defScope S_width) := ⟨rfl, rfl, rfl, by decide +kernel, rfl, by decide +kernel, by decide +kernel⟩
abbrev S_size : Stmt := top 90
abbrev N_size : List Str := ["a"]
theorem sc_size : FnScope N_size ["a"] (defScope S_size) := ⟨rfl, rfl, rfl, by decide +kernel, rfl, by decide +kernel, by decide +kernel⟩
abbrev S_box_add : Stmt := top 92
abbrev N_box_add : List Str := ["a", "b"]
theorem sc_box_add : FnScope N_box_add ["a", "b"] (defScope S_box_add) := ⟨rfl, rfl, rfl, by decide +kernel, rfl, by decide +kernel, by decide +kernel⟩
abbrev S_box_hull : Stmt := top 93
abbrev N_box_hull : List Str := ["a", "b"]
theorem sc_box_hull : FnScope N_box_hull ["a", "b"] (defScope S_box_hull) := ⟨rfl, rfl, rfl, by decide +kernel, rfl, by decide +kernel, by decide +kernel⟩
abbrev S_box_widened : Stmt := top 94
abbrev N_box_widened : List Str := ["a", "w"]
theorem sc_box_widened : FnScope N_box_widened ["a", "w"] (defScope S_box_widened) := ⟨rfl, rfl, rfl, by decide +kernel, rfl, by decide +kernel, by decide +kernel⟩
abbrev S_box_meet : Stmt := top 95
abbrev N_box_meet : List Str := ["a", "b", "x", "y", "z"]
theorem sc_box_meet : FnScope N_box_meet ["a", "b"] (defScope S_box_meet) := ⟨rfl, rfl, rfl, by decide +kernel, rfl, by decide +kernel, by decide +kernel⟩
abbrev S_square_length : Stmt := top 96
abbrev N_square_length : List Str := ["box"]
theorem sc_square_length : FnScope N_square_length ["box"] (defScope S_square_length) := ⟨rfl, rfl, rfl, by decide +kernel, rfl, by decide +kernel, by decide +kernel⟩
abbrev S_box_size : Stmt := top 97
abbrev N_box_size : List Str := ["box"]
theorem sc_box_size : FnScope N_box_size ["box"] (defScope S_box_size) := ⟨rfl, rfl, rfl, by decide +kernel, rfl, by decide +kernel, by decide +kernel⟩
abbrev S_pull_over : Stmt := top 100
abbrev N_pull_over : List Str := ["body", "box", "s", "d", "e", "height", "pulls", "k", "main", "bulge", "more"]
theorem sc_pull_over : FnScope N_pull_over ["body", "box"] (defScope S_pull_over) := ⟨rfl, rfl, rfl, by decide +kernel, rfl, by decide +kernel, by decide +kernel⟩
abbrev S_push_at : Stmt := top 103
abbrev N_push_at : List Str := ["craft", "at", "burn"]
theorem sc_push_at : FnScope N_push_at ["craft", "at"] (defScope S_push_at) := ⟨rfl, rfl, rfl, by decide +kernel, rfl, by decide +kernel, by decide +kernel⟩
abbrev S_State_init : Stmt := inClass (top 105) 0
abbrev N_State_init : List Str := ["self", "place", "speed"]
theorem sc_State_init : FnScope N_State_init ["self", "place", "speed"] (defScope S_State_init) := ⟨rfl, rfl, rfl, by decide +kernel, rfl, by decide +kernel, by decide +kernel⟩
abbrev S_put : Stmt := top 106
abbrev N_put : List Str := ["box", "k", "interval", "j"]
theorem sc_put : FnScope N_put ["box", "k", "interval"] (defScope S_put) := ⟨rfl, rfl, rfl, by decide +kernel, rfl, by decide +kernel, by decide +kernel⟩
abbrev S_split : Stmt := top 107
abbrev N_split : List Str := ["state", "intervals", "widest", "k", "low", "high", "m", "halves", "half"]
theorem sc_split : FnScope N_split ["state"] (defScope S_split) := ⟨rfl, rfl, rfl, by decide +kernel, rfl, by decide +kernel, by decide +kernel⟩
abbrev S_parts_of : Stmt := top 108
abbrev N_parts_of : List Str := ["state", "fineness", "parts", "turn", "finer", "part"]
theorem sc_parts_of : FnScope N_parts_of ["state", "fineness"] (defScope S_parts_of) := ⟨rfl, rfl, rfl, by decide +kernel, rfl, by decide +kernel, by decide +kernel⟩
abbrev S_step : Stmt := top 111
abbrev N_step : List Str := ["body", "state", "push", "drift", "a", "speed", "place"]
theorem sc_step : FnScope N_step ["body", "state", "push", "drift"] (defScope S_step) := ⟨rfl, rfl, rfl, by decide +kernel, rfl, by decide +kernel, by decide +kernel⟩
abbrev S_cut : Stmt := top 112
abbrev N_cut : List Str := ["state", "box", "place"]
theorem sc_cut : FnScope N_cut ["state", "box"] (defScope S_cut) := ⟨rfl, rfl, rfl, by decide +kernel, rfl, by decide +kernel, by decide +kernel⟩
abbrev S_sighting_at : Stmt := top 114
abbrev N_sighting_at : List Str := ["craft", "at", "sighting"]
theorem sc_sighting_at : FnScope N_sighting_at ["craft", "at"] (defScope S_sighting_at) := ⟨rfl, rfl, rfl, by decide +kernel, rfl, by decide +kernel, by decide +kernel⟩
abbrev S_cut_all : Stmt := top 115
abbrev N_cut_all : List Str := ["states", "box", "left", "state", "less"]
theorem sc_cut_all : FnScope N_cut_all ["states", "box"] (defScope S_cut_all) := ⟨rfl, rfl, rfl, by decide +kernel, rfl, by decide +kernel, by decide +kernel⟩
abbrev S_first_states : Stmt := top 116
abbrev N_first_states : List Str := ["fineness", "craft"]
theorem sc_first_states : FnScope N_first_states ["fineness", "craft"] (defScope S_first_states) := ⟨rfl, rfl, rfl, by decide +kernel, rfl, by decide +kernel, by decide +kernel⟩
abbrev S_Piece_init : Stmt := inClass (top 118) 0
abbrev N_Piece_init : List Str := ["self", "begin", "end", "parts"]
theorem sc_Piece_init : FnScope N_Piece_init ["self", "begin", "end", "parts"] (defScope S_Piece_init) := ⟨rfl, rfl, rfl, by decide +kernel, rfl, by decide +kernel, by decide +kernel⟩
abbrev S_Course_init : Stmt := inClass (top 119) 0
abbrev N_Course_init : List Str := ["self", "pieces", "ending"]
theorem sc_Course_init : FnScope N_Course_init ["self", "pieces", "ending"] (defScope S_Course_init) := ⟨rfl, rfl, rfl, by decide +kernel, rfl, by decide +kernel, by decide +kernel⟩
abbrev S_next_rows : Stmt := top 120
abbrev N_next_rows : List Str := ["body", "craft", "at", "rows", "push", "box", "later", "state", "during", "following"]
theorem sc_next_rows : FnScope N_next_rows ["body", "craft", "at", "rows"] (defScope S_next_rows) := ⟨rfl, rfl, rfl, by decide +kernel, rfl, by decide +kernel, by decide +kernel⟩
abbrev S_course : Stmt := top 121
abbrev N_course : List Str := ["contents", "craft", "until", "pieces", "state", "rows", "begin", "at", "during", "ending"]
theorem sc_course : FnScope N_course ["contents", "craft", "until"] (defScope S_course) := ⟨rfl, rfl, rfl, by decide +kernel, rfl, by decide +kernel, by decide +kernel⟩
abbrev S_law_row : Stmt := top 123
abbrev N_law_row : List Str := ["_law_script", "_law_k", "_law_row_here"]
theorem sc_law_row : FnScope N_law_row ["_law_script", "_law_k"] (defScope S_law_row) := ⟨rfl, rfl, rfl, by decide +kernel, rfl, by decide +kernel, by decide +kernel⟩
abbrev S_law_spread : Stmt := top 124
abbrev N_law_spread : List Str := ["_law_row_here", "_law_places", "_law_span", "_law_numbers", "_law_k"]
theorem sc_law_spread : FnScope N_law_spread ["_law_row_here", "_law_places", "_law_span"] (defScope S_law_spread) := ⟨rfl, rfl, rfl, by decide +kernel, rfl, by decide +kernel, by decide +kernel⟩
abbrev S_law_box : Stmt := top 125
abbrev N_law_box : List Str := ["_law_row_here", "_law_span", "_law_wide_here", "_law_centres", "_law_box_here", "_law_k", "_law_half"]
theorem sc_law_box : FnScope N_law_box ["_law_row_here", "_law_span", "_law_wide_here"] (defScope S_law_box) := ⟨rfl, rfl, rfl, by decide +kernel, rfl, by decide +kernel, by decide +kernel⟩
abbrev S_law_craft : Stmt := top 126
abbrev N_law_craft : List Str := ["_law_name", "_law_start", "_law_place", "_law_speed", "_law_drift", "_law_burns", "_law_seen", "_law_begin", "_law_end", "_law_box_here", "_law_pushes", "_law_at", "_law_sights"]
theorem sc_law_craft : FnScope N_law_craft ["_law_name", "_law_start", "_law_place", "_law_speed", "_law_drift", "_law_burns", "_law_seen"] (defScope S_law_craft) := ⟨rfl, rfl, rfl, by decide +kernel, rfl, by decide +kernel, by decide +kernel⟩
abbrev S_law_world : Stmt := top 127
abbrev N_law_world : List Str := ["_law_script", "_law_row_here", "_law_mu", "_law_bulge", "_law_turn_here", "_law_stride"]
theorem sc_law_world : FnScope N_law_world ["_law_script"] (defScope S_law_world) := ⟨rfl, rfl, rfl, by decide +kernel, rfl, by decide +kernel, by decide +kernel⟩
abbrev S_law_turn : Stmt := top 128
abbrev N_law_turn : List Str := ["_law_row_here", "_law_turns", "_law_p", "_law_q"]
theorem sc_law_turn : FnScope N_law_turn ["_law_row_here"] (defScope S_law_turn) := ⟨rfl, rfl, rfl, by decide +kernel, rfl, by decide +kernel, by decide +kernel⟩
abbrev S_law_data : Stmt := top 129
abbrev N_law_data : List Str := ["_law_script", "_law_k", "_law_name", "_law_row_here", "_law_drift", "_law_start", "_law_many", "_law_place", "_law_speed", "_law_burns", "_law_first", "_law_j", "_law_box_here"]
theorem sc_law_data : FnScope N_law_data ["_law_script", "_law_k", "_law_name"] (defScope S_law_data) := ⟨rfl, rfl, rfl, by decide +kernel, rfl, by decide +kernel, by decide +kernel⟩
abbrev S_law_made : Stmt := top 130
abbrev N_law_made : List Str := ["_law_data_here", "_law_seen", "_law_name", "_law_start", "_law_place", "_law_speed", "_law_drift", "_law_burns", "_law_many"]
theorem sc_law_made : FnScope N_law_made ["_law_data_here", "_law_seen"] (defScope S_law_made) := ⟨rfl, rfl, rfl, by decide +kernel, rfl, by decide +kernel, by decide +kernel⟩
abbrev S_law_wide : Stmt := top 131
abbrev N_law_wide : List Str := ["_law_row_here"]
theorem sc_law_wide : FnScope N_law_wide ["_law_row_here"] (defScope S_law_wide) := ⟨rfl, rfl, rfl, by decide +kernel, rfl, by decide +kernel, by decide +kernel⟩
abbrev S_law_drawn_edit : Stmt := top 132
abbrev N_law_drawn_edit : List Str := ["_law_script", "_law_k", "_law_names", "_law_row_here", "_law_name", "_law_more", "_law_tick", "_law_box_here", "_law_kind"]
theorem sc_law_drawn_edit : FnScope N_law_drawn_edit ["_law_script", "_law_k", "_law_names"] (defScope S_law_drawn_edit) := ⟨rfl, rfl, rfl, by decide +kernel, rfl, by decide +kernel, by decide +kernel⟩
abbrev S_law_pieces : Stmt := top 133
abbrev N_law_pieces : List Str := ["_law_contents", "_law_craft_here", "_law_way", "_law_piece"]
theorem sc_law_pieces : FnScope N_law_pieces ["_law_contents", "_law_craft_here"] (defScope S_law_pieces) := ⟨rfl, rfl, rfl, by decide +kernel, rfl, by decide +kernel, by decide +kernel⟩
abbrev S_law : Stmt := top 134
abbrev N_law : List Str := ["_law_script", "_law_mu", "_law_bulge", "_law_turn_here", "_law_stride", "_law_fineness", "_law_contents", "_law_k", "_law_before", "_law_craft_here", "_law_book", "_law_left", "_law_named", "_law_row_here", "_law_told", "_law_edit", "_law_name", "_law_tick"]
theorem sc_law : FnScope N_law ["_law_script"] (defScope S_law) := ⟨rfl, rfl, rfl, by decide +kernel, rfl, by decide +kernel, by decide +kernel⟩
/-! ### data written in the text -/
/-- a tuple of these stands at a -/
def tupA (K : PySem.W.Frag) (a : Addr) (vs : List V) : Bool := match K.lookup a with
  | some ⟨.type c, _, .seq its _, _⟩ => decide (c = "tuple") && (decide (its.size ≤ sizeLine) && He.relAll vs its.toList)
  | _ => false
theorem tupA_ok {K : PySem.W.Frag} {a : Addr} {vs : List V} (h : tupA K a vs = true) (H : Hp) : SqT K H a vs := by
  unfold tupA at h
  cases q : K.lookup a with
  | none =>
    rw [q] at h
    cases h
  | some o =>
    obtain ⟨oc, od, dt, osl⟩ := o
    rw [q] at h
    cases oc with
    | type c =>
      cases dt with
      | seq its n =>
        obtain ⟨h1, h2⟩ := He.ba (show (decide (c = "tuple") && (decide (its.size ≤ sizeLine) && He.relAll vs its.toList)) = true from h)
        obtain ⟨h3, h4⟩ := He.ba h2
        exact .inr ⟨_, its, n, q, congrArg Value.type (of_decide_eq_true h1), rfl, of_decide_eq_true h3, He.relAll_ok h4⟩
      | _ => cases h
    | _ => cases dt <;> cases h
/-- the object at the i-th place of the tuple at a -/
def itA (K : PySem.W.Frag) (a : Addr) (i : Nat) : Addr := match K.lookup a with
  | some ⟨_, _, .seq its _, _⟩ => (match its.toList[i]? with
    | some (.ref b) => b
    | _ => 0)
  | _ => 0
/-- the function object of a def -/
def fdf (K : PySem.W.Frag) (p : Str × Option Str) : FuncData := match K.lookup (He.fAd K p) with
  | some ⟨_, _, .func fd, _⟩ => fd
  | _ => default

def fa0 : List He.Fa := [.glo "find_named", .glo "put_named", .glo "drop_named", .glo "craft_of", .glo "site_of", .glo "check", .glo "is_name", .glo "is_tick", .glo "is_box", .glo "same_craft", .glo "craft_data", .glo "body_data", .glo "entries", .glo "first_difference", .glo "touched_at", .glo "rules_differ", .glo "touched_crafts", .glo "touched_sites", .glo "gone", .glo "differences", .glo "with_crafts", .glo "with_sites", .glo "changed_craft", .glo "add_craft", .glo "drop_craft", .glo "set_drift", .glo "add_burn", .glo "drop_burn", .glo "add_sighting", .glo "drop_sighting"]
def fa1 : List He.Fa := [.glo "add_site", .glo "drop_site", .glo "set_stride", .glo "set_fineness", .glo "apply_edit", .glo "write_line", .glo "box_numbers", .glo "texts", .glo "craft_lines", .glo "head_lines", .glo "saved_text", .glo "add", .glo "subtract", .glo "scaled", .glo "multiply", .glo "square", .glo "quotient", .glo "root", .glo "meet", .glo "hull", .glo "widened", .glo "middle", .glo "width", .glo "size", .glo "box_add", .glo "box_hull", .glo "box_widened", .glo "box_meet", .glo "square_length", .glo "box_size"]
def fa2 : List He.Fa := [.glo "pull_over", .glo "push_at", .glo "put", .glo "split", .glo "parts_of", .glo "step", .glo "cut", .glo "sighting_at", .glo "cut_all", .glo "first_states", .glo "next_rows", .glo "course", .glo "_law_row", .glo "_law_spread", .glo "_law_box", .glo "_law_craft", .glo "_law_world", .glo "_law_turn", .glo "_law_data", .glo "_law_made", .glo "_law_wide", .glo "_law_drawn_edit", .glo "_law_pieces", .glo "law", .glo "Body", .glo "Burn", .glo "Sighting", .glo "Craft", .glo "Site", .glo "Contents"]
def fa3 : List He.Fa := [.glo "State", .glo "Piece", .glo "Course", .glo "Catalogue", .glo "TooMany", .glo "BeforeStart", .glo "BurnsOverlap", .glo "NoSuchBurn", .glo "NoSuchSighting", .glo "NoSuchCraft", .glo "NoSuchSite", .glo "OrreryError", .glo "ONE", .glo "TWO", .glo "FACTORS", .glo "NOTHING", .free "len", .free "range", .free "tuple", .free "list", .free "max", .free "min", .free "abs", .free "int", .free "str", .free "zip", .free "super", .int "LAST_TICK" 100000, .int "MOST" 1000000000000000, .int "MOST_DRIFT" 1000000000000]
def fa4 : List He.Fa := [.int "MOST_CRAFT" 20, .int "MOST_SITES" 10, .int "MOST_OF_CRAFT" 20, .int "KEPT" 100, .int "LIMIT" 10000000000000000000000000000000000000000, .str "HEAD" "orrery contents", .cls "Body", .cls "Burn", .cls "Sighting", .cls "Craft", .cls "Site", .cls "Contents", .cls "State", .cls "Piece", .cls "Course", .cls "Catalogue", .mkr "Body", .mkr "Burn", .mkr "Sighting", .mkr "Craft", .mkr "Site", .mkr "Contents", .mkr "State", .mkr "Piece", .mkr "Course", .mkr "Catalogue", .noat "Body" "mu", .noat "Body" "oblateness", .noat "Body" "turn", .noat "Burn" "begin"]
def fa5 : List He.Fa := [.noat "Burn" "end", .noat "Burn" "push", .noat "Sighting" "at", .noat "Sighting" "place", .noat "Craft" "name", .noat "Craft" "start", .noat "Craft" "place", .noat "Craft" "speed", .noat "Craft" "drift", .noat "Craft" "burns", .noat "Craft" "sightings", .noat "Site" "name", .noat "Site" "place", .noat "Contents" "body", .noat "Contents" "stride", .noat "Contents" "fineness", .noat "Contents" "crafts", .noat "Contents" "sites", .noat "State" "place", .noat "State" "speed", .noat "Piece" "begin", .noat "Piece" "end", .noat "Piece" "parts", .noat "Course" "pieces", .noat "Course" "ending", .noat "Catalogue" "contents", .noat "Catalogue" "version", .noat "Catalogue" "earlier", .meth "Catalogue" "edit", .meth "Catalogue" "undo"]
def fa6 : List He.Fa := [.exc "TooMany", .exc "BeforeStart", .exc "BurnsOverlap", .exc "NoSuchBurn", .exc "NoSuchSighting", .exm "TooMany" "OrreryError" true, .exm "BeforeStart" "OrreryError" true, .exm "BurnsOverlap" "OrreryError" true, .exm "NoSuchBurn" "OrreryError" true, .exm "NoSuchSighting" "OrreryError" true, .exm "NoSuchCraft" "OrreryError" true, .exm "NoSuchSite" "OrreryError" true]
abbrev at_find_named : Str × Option Str := ("find_named", none)
def D_find_named : He.DefD := ⟨at_find_named, "find_named", "find_named", defArgs S_find_named, defBody S_find_named, defScope S_find_named, [], []⟩
abbrev at_put_named : Str × Option Str := ("put_named", none)
def D_put_named : He.DefD := ⟨at_put_named, "put_named", "put_named", defArgs S_put_named, defBody S_put_named, defScope S_put_named, [], []⟩
abbrev at_drop_named : Str × Option Str := ("drop_named", none)
def D_drop_named : He.DefD := ⟨at_drop_named, "drop_named", "drop_named", defArgs S_drop_named, defBody S_drop_named, defScope S_drop_named, [], []⟩
abbrev at_craft_of : Str × Option Str := ("craft_of", none)
def D_craft_of : He.DefD := ⟨at_craft_of, "craft_of", "craft_of", defArgs S_craft_of, defBody S_craft_of, defScope S_craft_of, [], []⟩
abbrev at_site_of : Str × Option Str := ("site_of", none)
def D_site_of : He.DefD := ⟨at_site_of, "site_of", "site_of", defArgs S_site_of, defBody S_site_of, defScope S_site_of, [], []⟩
abbrev at_check : Str × Option Str := ("check", none)
def D_check : He.DefD := ⟨at_check, "check", "check", defArgs S_check, defBody S_check, defScope S_check, [], []⟩
abbrev at_is_name : Str × Option Str := ("is_name", none)
def D_is_name : He.DefD := ⟨at_is_name, "is_name", "is_name", defArgs S_is_name, defBody S_is_name, defScope S_is_name, [], []⟩
abbrev at_is_tick : Str × Option Str := ("is_tick", none)
def D_is_tick : He.DefD := ⟨at_is_tick, "is_tick", "is_tick", defArgs S_is_tick, defBody S_is_tick, defScope S_is_tick, [], []⟩
abbrev at_is_box : Str × Option Str := ("is_box", none)
def D_is_box : He.DefD := ⟨at_is_box, "is_box", "is_box", defArgs S_is_box, defBody S_is_box, defScope S_is_box, [], []⟩
abbrev at_Body_init : Str × Option Str := ("Body", some "__init__")
def D_Body_init : He.DefD := ⟨at_Body_init, "__init__", "Body.__init__", defArgs S_Body_init, defBody S_Body_init, defScope S_Body_init, [], []⟩
abbrev at_Burn_init : Str × Option Str := ("Burn", some "__init__")
def D_Burn_init : He.DefD := ⟨at_Burn_init, "__init__", "Burn.__init__", defArgs S_Burn_init, defBody S_Burn_init, defScope S_Burn_init, [], []⟩
abbrev at_Sighting_init : Str × Option Str := ("Sighting", some "__init__")
def D_Sighting_init : He.DefD := ⟨at_Sighting_init, "__init__", "Sighting.__init__", defArgs S_Sighting_init, defBody S_Sighting_init, defScope S_Sighting_init, [], []⟩
abbrev at_Craft_init : Str × Option Str := ("Craft", some "__init__")
def D_Craft_init : He.DefD := ⟨at_Craft_init, "__init__", "Craft.__init__", defArgs S_Craft_init, defBody S_Craft_init, defScope S_Craft_init, [.adr (He.dflAt ("Craft", some "__init__") 0), .adr (He.dflAt ("Craft", some "__init__") 1)], []⟩
abbrev at_Site_init : Str × Option Str := ("Site", some "__init__")
def D_Site_init : He.DefD := ⟨at_Site_init, "__init__", "Site.__init__", defArgs S_Site_init, defBody S_Site_init, defScope S_Site_init, [], []⟩
abbrev at_Contents_init : Str × Option Str := ("Contents", some "__init__")
def D_Contents_init : He.DefD := ⟨at_Contents_init, "__init__", "Contents.__init__", defArgs S_Contents_init, defBody S_Contents_init, defScope S_Contents_init, [.adr (He.dflAt ("Contents", some "__init__") 0), .adr (He.dflAt ("Contents", some "__init__") 1)], []⟩
abbrev at_same_craft : Str × Option Str := ("same_craft", none)
def D_same_craft : He.DefD := ⟨at_same_craft, "same_craft", "same_craft", defArgs S_same_craft, defBody S_same_craft, defScope S_same_craft, [], []⟩
abbrev at_craft_data : Str × Option Str := ("craft_data", none)
def D_craft_data : He.DefD := ⟨at_craft_data, "craft_data", "craft_data", defArgs S_craft_data, defBody S_craft_data, defScope S_craft_data, [], []⟩
abbrev at_body_data : Str × Option Str := ("body_data", none)
def D_body_data : He.DefD := ⟨at_body_data, "body_data", "body_data", defArgs S_body_data, defBody S_body_data, defScope S_body_data, [], []⟩
abbrev at_entries : Str × Option Str := ("entries", none)
def D_entries : He.DefD := ⟨at_entries, "entries", "entries", defArgs S_entries, defBody S_entries, defScope S_entries, [], []⟩
abbrev at_first_difference : Str × Option Str := ("first_difference", none)
def D_first_difference : He.DefD := ⟨at_first_difference, "first_difference", "first_difference", defArgs S_first_difference, defBody S_first_difference, defScope S_first_difference, [], []⟩
abbrev at_touched_at : Str × Option Str := ("touched_at", none)
def D_touched_at : He.DefD := ⟨at_touched_at, "touched_at", "touched_at", defArgs S_touched_at, defBody S_touched_at, defScope S_touched_at, [], []⟩
abbrev at_rules_differ : Str × Option Str := ("rules_differ", none)
def D_rules_differ : He.DefD := ⟨at_rules_differ, "rules_differ", "rules_differ", defArgs S_rules_differ, defBody S_rules_differ, defScope S_rules_differ, [], []⟩
abbrev at_touched_crafts : Str × Option Str := ("touched_crafts", none)
def D_touched_crafts : He.DefD := ⟨at_touched_crafts, "touched_crafts", "touched_crafts", defArgs S_touched_crafts, defBody S_touched_crafts, defScope S_touched_crafts, [], []⟩
abbrev at_touched_sites : Str × Option Str := ("touched_sites", none)
def D_touched_sites : He.DefD := ⟨at_touched_sites, "touched_sites", "touched_sites", defArgs S_touched_sites, defBody S_touched_sites, defScope S_touched_sites, [], []⟩
abbrev at_gone : Str × Option Str := ("gone", none)
def D_gone : He.DefD := ⟨at_gone, "gone", "gone", defArgs S_gone, defBody S_gone, defScope S_gone, [], []⟩
abbrev at_differences : Str × Option Str := ("differences", none)
def D_differences : He.DefD := ⟨at_differences, "differences", "differences", defArgs S_differences, defBody S_differences, defScope S_differences, [], []⟩
abbrev at_with_crafts : Str × Option Str := ("with_crafts", none)
def D_with_crafts : He.DefD := ⟨at_with_crafts, "with_crafts", "with_crafts", defArgs S_with_crafts, defBody S_with_crafts, defScope S_with_crafts, [], []⟩
abbrev at_with_sites : Str × Option Str := ("with_sites", none)
def D_with_sites : He.DefD := ⟨at_with_sites, "with_sites", "with_sites", defArgs S_with_sites, defBody S_with_sites, defScope S_with_sites, [], []⟩
abbrev at_changed_craft : Str × Option Str := ("changed_craft", none)
def D_changed_craft : He.DefD := ⟨at_changed_craft, "changed_craft", "changed_craft", defArgs S_changed_craft, defBody S_changed_craft, defScope S_changed_craft, [], []⟩
abbrev at_add_craft : Str × Option Str := ("add_craft", none)
def D_add_craft : He.DefD := ⟨at_add_craft, "add_craft", "add_craft", defArgs S_add_craft, defBody S_add_craft, defScope S_add_craft, [], []⟩
abbrev at_drop_craft : Str × Option Str := ("drop_craft", none)
def D_drop_craft : He.DefD := ⟨at_drop_craft, "drop_craft", "drop_craft", defArgs S_drop_craft, defBody S_drop_craft, defScope S_drop_craft, [], []⟩
abbrev at_set_drift : Str × Option Str := ("set_drift", none)
def D_set_drift : He.DefD := ⟨at_set_drift, "set_drift", "set_drift", defArgs S_set_drift, defBody S_set_drift, defScope S_set_drift, [], []⟩
abbrev at_add_burn : Str × Option Str := ("add_burn", none)
def D_add_burn : He.DefD := ⟨at_add_burn, "add_burn", "add_burn", defArgs S_add_burn, defBody S_add_burn, defScope S_add_burn, [], []⟩
abbrev at_drop_burn : Str × Option Str := ("drop_burn", none)
def D_drop_burn : He.DefD := ⟨at_drop_burn, "drop_burn", "drop_burn", defArgs S_drop_burn, defBody S_drop_burn, defScope S_drop_burn, [], []⟩
abbrev at_add_sighting : Str × Option Str := ("add_sighting", none)
def D_add_sighting : He.DefD := ⟨at_add_sighting, "add_sighting", "add_sighting", defArgs S_add_sighting, defBody S_add_sighting, defScope S_add_sighting, [], []⟩
abbrev at_drop_sighting : Str × Option Str := ("drop_sighting", none)
def D_drop_sighting : He.DefD := ⟨at_drop_sighting, "drop_sighting", "drop_sighting", defArgs S_drop_sighting, defBody S_drop_sighting, defScope S_drop_sighting, [], []⟩
abbrev at_add_site : Str × Option Str := ("add_site", none)
def D_add_site : He.DefD := ⟨at_add_site, "add_site", "add_site", defArgs S_add_site, defBody S_add_site, defScope S_add_site, [], []⟩
abbrev at_drop_site : Str × Option Str := ("drop_site", none)
def D_drop_site : He.DefD := ⟨at_drop_site, "drop_site", "drop_site", defArgs S_drop_site, defBody S_drop_site, defScope S_drop_site, [], []⟩
abbrev at_set_stride : Str × Option Str := ("set_stride", none)
def D_set_stride : He.DefD := ⟨at_set_stride, "set_stride", "set_stride", defArgs S_set_stride, defBody S_set_stride, defScope S_set_stride, [], []⟩
abbrev at_set_fineness : Str × Option Str := ("set_fineness", none)
def D_set_fineness : He.DefD := ⟨at_set_fineness, "set_fineness", "set_fineness", defArgs S_set_fineness, defBody S_set_fineness, defScope S_set_fineness, [], []⟩
abbrev at_apply_edit : Str × Option Str := ("apply_edit", none)
def D_apply_edit : He.DefD := ⟨at_apply_edit, "apply_edit", "apply_edit", defArgs S_apply_edit, defBody S_apply_edit, defScope S_apply_edit, [], []⟩
abbrev at_Catalogue_init : Str × Option Str := ("Catalogue", some "__init__")
def D_Catalogue_init : He.DefD := ⟨at_Catalogue_init, "__init__", "Catalogue.__init__", defArgs S_Catalogue_init, defBody S_Catalogue_init, defScope S_Catalogue_init, [], []⟩
abbrev at_Catalogue_edit : Str × Option Str := ("Catalogue", some "edit")
def D_Catalogue_edit : He.DefD := ⟨at_Catalogue_edit, "edit", "Catalogue.edit", defArgs S_Catalogue_edit, defBody S_Catalogue_edit, defScope S_Catalogue_edit, [], []⟩
abbrev at_Catalogue_undo : Str × Option Str := ("Catalogue", some "undo")
def D_Catalogue_undo : He.DefD := ⟨at_Catalogue_undo, "undo", "Catalogue.undo", defArgs S_Catalogue_undo, defBody S_Catalogue_undo, defScope S_Catalogue_undo, [], []⟩
abbrev at_write_line : Str × Option Str := ("write_line", none)
def D_write_line : He.DefD := ⟨at_write_line, "write_line", "write_line", defArgs S_write_line, defBody S_write_line, defScope S_write_line, [], []⟩
abbrev at_box_numbers : Str × Option Str := ("box_numbers", none)
def D_box_numbers : He.DefD := ⟨at_box_numbers, "box_numbers", "box_numbers", defArgs S_box_numbers, defBody S_box_numbers, defScope S_box_numbers, [], []⟩
abbrev at_texts : Str × Option Str := ("texts", none)
def D_texts : He.DefD := ⟨at_texts, "texts", "texts", defArgs S_texts, defBody S_texts, defScope S_texts, [], []⟩
abbrev at_craft_lines : Str × Option Str := ("craft_lines", none)
def D_craft_lines : He.DefD := ⟨at_craft_lines, "craft_lines", "craft_lines", defArgs S_craft_lines, defBody S_craft_lines, defScope S_craft_lines, [], []⟩
abbrev at_head_lines : Str × Option Str := ("head_lines", none)
def D_head_lines : He.DefD := ⟨at_head_lines, "head_lines", "head_lines", defArgs S_head_lines, defBody S_head_lines, defScope S_head_lines, [], []⟩
abbrev at_saved_text : Str × Option Str := ("saved_text", none)
def D_saved_text : He.DefD := ⟨at_saved_text, "saved_text", "saved_text", defArgs S_saved_text, defBody S_saved_text, defScope S_saved_text, [], []⟩
abbrev at_add : Str × Option Str := ("add", none)
def D_add : He.DefD := ⟨at_add, "add", "add", defArgs S_add, defBody S_add, defScope S_add, [], []⟩
abbrev at_subtract : Str × Option Str := ("subtract", none)
def D_subtract : He.DefD := ⟨at_subtract, "subtract", "subtract", defArgs S_subtract, defBody S_subtract, defScope S_subtract, [], []⟩
abbrev at_scaled : Str × Option Str := ("scaled", none)
def D_scaled : He.DefD := ⟨at_scaled, "scaled", "scaled", defArgs S_scaled, defBody S_scaled, defScope S_scaled, [], []⟩
abbrev at_multiply : Str × Option Str := ("multiply", none)
def D_multiply : He.DefD := ⟨at_multiply, "multiply", "multiply", defArgs S_multiply, defBody S_multiply, defScope S_multiply, [], []⟩
abbrev at_square : Str × Option Str := ("square", none)
def D_square : He.DefD := ⟨at_square, "square", "square", defArgs S_square, defBody S_square, defScope S_square, [], []⟩
abbrev at_quotient : Str × Option Str := ("quotient", none)
def D_quotient : He.DefD := ⟨at_quotient, "quotient", "quotient", defArgs S_quotient, defBody S_quotient, defScope S_quotient, [], []⟩
abbrev at_root : Str × Option Str := ("root", none)
def D_root : He.DefD := ⟨at_root, "root", "root", defArgs S_root, defBody S_root, defScope S_root, [], []⟩
abbrev at_meet : Str × Option Str := ("meet", none)
def D_meet : He.DefD := ⟨at_meet, "meet", "meet", defArgs S_meet, defBody S_meet, defScope S_meet, [], []⟩
abbrev at_hull : Str × Option Str := ("hull", none)
def D_hull : He.DefD := ⟨at_hull, "hull", "hull", defArgs S_hull, defBody S_hull, defScope S_hull, [], []⟩
abbrev at_widened : Str × Option Str := ("widened", none)
def D_widened : He.DefD := ⟨at_widened, "widened", "widened", defArgs S_widened, defBody S_widened, defScope S_widened, [], []⟩
abbrev at_middle : Str × Option Str := ("middle", none)
def D_middle : He.DefD := ⟨at_middle, "middle", "middle", defArgs S_middle, defBody S_middle, defScope S_middle, [], []⟩
abbrev at_width : Str × Option Str := ("width", none)
def D_width : He.DefD := ⟨at_width, "width", "width", defArgs S_width, defBody S_width, defScope S_width, [], []⟩
abbrev at_size : Str × Option Str := ("size", none)
def D_size : He.DefD := ⟨at_size, "size", "size", defArgs S_size, defBody S_size, defScope S_size, [], []⟩
abbrev at_box_add : Str × Option Str := ("box_add", none)
def D_box_add : He.DefD := ⟨at_box_add, "box_add", "box_add", defArgs S_box_add, defBody S_box_add, defScope S_box_add, [], []⟩
abbrev at_box_hull : Str × Option Str := ("box_hull", none)
def D_box_hull : He.DefD := ⟨at_box_hull, "box_hull", "box_hull", defArgs S_box_hull, defBody S_box_hull, defScope S_box_hull, [], []⟩
abbrev at_box_widened : Str × Option Str := ("box_widened", none)
def D_box_widened : He.DefD := ⟨at_box_widened, "box_widened", "box_widened", defArgs S_box_widened, defBody S_box_widened, defScope S_box_widened, [], []⟩
abbrev at_box_meet : Str × Option Str := ("box_meet", none)
def D_box_meet : He.DefD := ⟨at_box_meet, "box_meet", "box_meet", defArgs S_box_meet, defBody S_box_meet, defScope S_box_meet, [], []⟩
abbrev at_square_length : Str × Option Str := ("square_length", none)
def D_square_length : He.DefD := ⟨at_square_length, "square_length", "square_length", defArgs S_square_length, defBody S_square_length, defScope S_square_length, [], []⟩
abbrev at_box_size : Str × Option Str := ("box_size", none)
def D_box_size : He.DefD := ⟨at_box_size, "box_size", "box_size", defArgs S_box_size, defBody S_box_size, defScope S_box_size, [], []⟩
abbrev at_pull_over : Str × Option Str := ("pull_over", none)
def D_pull_over : He.DefD := ⟨at_pull_over, "pull_over", "pull_over", defArgs S_pull_over, defBody S_pull_over, defScope S_pull_over, [], []⟩
abbrev at_push_at : Str × Option Str := ("push_at", none)
def D_push_at : He.DefD := ⟨at_push_at, "push_at", "push_at", defArgs S_push_at, defBody S_push_at, defScope S_push_at, [], []⟩
abbrev at_State_init : Str × Option Str := ("State", some "__init__")
def D_State_init : He.DefD := ⟨at_State_init, "__init__", "State.__init__", defArgs S_State_init, defBody S_State_init, defScope S_State_init, [], []⟩
abbrev at_put : Str × Option Str := ("put", none)
def D_put : He.DefD := ⟨at_put, "put", "put", defArgs S_put, defBody S_put, defScope S_put, [], []⟩
abbrev at_split : Str × Option Str := ("split", none)
def D_split : He.DefD := ⟨at_split, "split", "split", defArgs S_split, defBody S_split, defScope S_split, [], []⟩
abbrev at_parts_of : Str × Option Str := ("parts_of", none)
def D_parts_of : He.DefD := ⟨at_parts_of, "parts_of", "parts_of", defArgs S_parts_of, defBody S_parts_of, defScope S_parts_of, [], []⟩
abbrev at_step : Str × Option Str := ("step", none)
def D_step : He.DefD := ⟨at_step, "step", "step", defArgs S_step, defBody S_step, defScope S_step, [], []⟩
abbrev at_cut : Str × Option Str := ("cut", none)
def D_cut : He.DefD := ⟨at_cut, "cut", "cut", defArgs S_cut, defBody S_cut, defScope S_cut, [], []⟩
abbrev at_sighting_at : Str × Option Str := ("sighting_at", none)
def D_sighting_at : He.DefD := ⟨at_sighting_at, "sighting_at", "sighting_at", defArgs S_sighting_at, defBody S_sighting_at, defScope S_sighting_at, [], []⟩
abbrev at_cut_all : Str × Option Str := ("cut_all", none)
def D_cut_all : He.DefD := ⟨at_cut_all, "cut_all", "cut_all", defArgs S_cut_all, defBody S_cut_all, defScope S_cut_all, [], []⟩
abbrev at_first_states : Str × Option Str := ("first_states", none)
def D_first_states : He.DefD := ⟨at_first_states, "first_states", "first_states", defArgs S_first_states, defBody S_first_states, defScope S_first_states, [], []⟩
abbrev at_Piece_init : Str × Option Str := ("Piece", some "__init__")
def D_Piece_init : He.DefD := ⟨at_Piece_init, "__init__", "Piece.__init__", defArgs S_Piece_init, defBody S_Piece_init, defScope S_Piece_init, [], []⟩
abbrev at_Course_init : Str × Option Str := ("Course", some "__init__")
def D_Course_init : He.DefD := ⟨at_Course_init, "__init__", "Course.__init__", defArgs S_Course_init, defBody S_Course_init, defScope S_Course_init, [], []⟩
abbrev at_next_rows : Str × Option Str := ("next_rows", none)
def D_next_rows : He.DefD := ⟨at_next_rows, "next_rows", "next_rows", defArgs S_next_rows, defBody S_next_rows, defScope S_next_rows, [], []⟩
abbrev at_course : Str × Option Str := ("course", none)
def D_course : He.DefD := ⟨at_course, "course", "course", defArgs S_course, defBody S_course, defScope S_course, [], []⟩
abbrev at_law_row : Str × Option Str := ("_law_row", none)
def D_law_row : He.DefD := ⟨at_law_row, "_law_row", "_law_row", defArgs S_law_row, defBody S_law_row, defScope S_law_row, [], []⟩
abbrev at_law_spread : Str × Option Str := ("_law_spread", none)
def D_law_spread : He.DefD := ⟨at_law_spread, "_law_spread", "_law_spread", defArgs S_law_spread, defBody S_law_spread, defScope S_law_spread, [], []⟩
abbrev at_law_box : Str × Option Str := ("_law_box", none)
def D_law_box : He.DefD := ⟨at_law_box, "_law_box", "_law_box", defArgs S_law_box, defBody S_law_box, defScope S_law_box, [], []⟩
abbrev at_law_craft : Str × Option Str := ("_law_craft", none)
def D_law_craft : He.DefD := ⟨at_law_craft, "_law_craft", "_law_craft", defArgs S_law_craft, defBody S_law_craft, defScope S_law_craft, [], []⟩
abbrev at_law_world : Str × Option Str := ("_law_world", none)
def D_law_world : He.DefD := ⟨at_law_world, "_law_world", "_law_world", defArgs S_law_world, defBody S_law_world, defScope S_law_world, [], []⟩
abbrev at_law_turn : Str × Option Str := ("_law_turn", none)
def D_law_turn : He.DefD := ⟨at_law_turn, "_law_turn", "_law_turn", defArgs S_law_turn, defBody S_law_turn, defScope S_law_turn, [], []⟩
abbrev at_law_data : Str × Option Str := ("_law_data", none)
def D_law_data : He.DefD := ⟨at_law_data, "_law_data", "_law_data", defArgs S_law_data, defBody S_law_data, defScope S_law_data, [], []⟩
abbrev at_law_made : Str × Option Str := ("_law_made", none)
def D_law_made : He.DefD := ⟨at_law_made, "_law_made", "_law_made", defArgs S_law_made, defBody S_law_made, defScope S_law_made, [], []⟩
abbrev at_law_wide : Str × Option Str := ("_law_wide", none)
def D_law_wide : He.DefD := ⟨at_law_wide, "_law_wide", "_law_wide", defArgs S_law_wide, defBody S_law_wide, defScope S_law_wide, [], []⟩
abbrev at_law_drawn_edit : Str × Option Str := ("_law_drawn_edit", none)
def D_law_drawn_edit : He.DefD := ⟨at_law_drawn_edit, "_law_drawn_edit", "_law_drawn_edit", defArgs S_law_drawn_edit, defBody S_law_drawn_edit, defScope S_law_drawn_edit, [], []⟩
abbrev at_law_pieces : Str × Option Str := ("_law_pieces", none)
def D_law_pieces : He.DefD := ⟨at_law_pieces, "_law_pieces", "_law_pieces", defArgs S_law_pieces, defBody S_law_pieces, defScope S_law_pieces, [], []⟩
abbrev at_law : Str × Option Str := ("law", none)
def D_law : He.DefD := ⟨at_law, "law", "law", defArgs S_law, defBody S_law, defScope S_law, [], []⟩
def fn0 : List He.DefD := [D_find_named, D_put_named, D_drop_named, D_craft_of, D_site_of, D_check, D_is_name, D_is_tick, D_is_box, D_Body_init, D_Burn_init, D_Sighting_init, D_Craft_init, D_Site_init, D_Contents_init, D_same_craft, D_craft_data, D_body_data, D_entries, D_first_difference]
def fn1 : List He.DefD := [D_touched_at, D_rules_differ, D_touched_crafts, D_touched_sites, D_gone, D_differences, D_with_crafts, D_with_sites, D_changed_craft, D_add_craft, D_drop_craft, D_set_drift, D_add_burn, D_drop_burn, D_add_sighting, D_drop_sighting, D_add_site, D_drop_site, D_set_stride, D_set_fineness]
def fn2 : List He.DefD := [D_apply_edit, D_Catalogue_init, D_Catalogue_edit, D_Catalogue_undo, D_write_line, D_box_numbers, D_texts, D_craft_lines, D_head_lines, D_saved_text, D_add, D_subtract, D_scaled, D_multiply, D_square, D_quotient, D_root, D_meet, D_hull, D_widened]
def fn3 : List He.DefD := [D_middle, D_width, D_size, D_box_add, D_box_hull, D_box_widened, D_box_meet, D_square_length, D_box_size, D_pull_over, D_push_at, D_State_init, D_put, D_split, D_parts_of, D_step, D_cut, D_sighting_at, D_cut_all, D_first_states]
def fn4 : List He.DefD := [D_Piece_init, D_Course_init, D_next_rows, D_course, D_law_row, D_law_spread, D_law_box, D_law_craft, D_law_world, D_law_turn, D_law_data, D_law_made, D_law_wide, D_law_drawn_edit, D_law_pieces, D_law]
def fa : List (List He.Fa) := [fa0, fa1, fa2, fa3, fa4, fa5, fa6]
def fn : List (List He.DefD) := [fn0, fn1, fn2, fn3, fn4]
def ts : List He.Tab := [(fun K => He.ga K "ONE", ["set body", "set stride", "set fineness", "add craft", "drop craft", "add site", "drop site"]), (fun K => He.ga K "TWO", ["set drift", "add burn", "drop burn", "add sighting", "drop sighting"])]
def vone : List (Str × He.Dv) := [("set stride", .glo "set_stride"), ("set fineness", .glo "set_fineness"), ("add craft", .glo "add_craft"), ("drop craft", .glo "drop_craft"), ("add site", .glo "add_site"), ("drop site", .glo "drop_site")]
def vtwo : List (Str × He.Dv) := [("set drift", .glo "set_drift"), ("add burn", .glo "add_burn"), ("drop burn", .glo "drop_burn"), ("add sighting", .glo "add_sighting"), ("drop sighting", .glo "drop_sighting")]
/-- the further facts -/
def exB (K : PySem.W.Frag) : Bool :=
  He.eqO (PySem.W.nsIn K mainGlobals "isqrt") (some (some (.builtin "math.isqrt"))) && (tupA K (He.ga K "FACTORS") [.int 1, .int 1, .int 3] && (tupA K (He.ga K "NOTHING") [.ref (itA K (He.ga K "NOTHING") 0), .ref (itA K (He.ga K "NOTHING") 1), .ref (itA K (He.ga K "NOTHING") 2)] &&
    (tupA K (itA K (He.ga K "NOTHING") 0) [.int 0, .int 0] && (tupA K (itA K (He.ga K "NOTHING") 1) [.int 0, .int 0] && (tupA K (itA K (He.ga K "NOTHING") 2) [.int 0, .int 0] &&
    (tupA K (He.dflAt at_Craft_init 0 K) [] && (tupA K (He.dflAt at_Craft_init 1 K) [] && (tupA K (He.dflAt at_Contents_init 0 K) [] && (tupA K (He.dflAt at_Contents_init 1 K) [] &&
    (He.valsB K (He.ga K "ONE") vone && (He.valsB K (He.ga K "TWO") vtwo && (He.eqO (PySem.W.nsIn K (He.ga K "ONE") "set drift") (some none) && He.eqO (PySem.W.nsIn K (He.ga K "ONE") "add burn") (some none) && He.eqO (PySem.W.nsIn K (He.ga K "ONE") "drop burn") (some none) && He.eqO (PySem.W.nsIn K (He.ga K "ONE") "add sighting") (some none) && He.eqO (PySem.W.nsIn K (He.ga K "ONE") "drop sighting") (some none))))))))))))) 
/-- what the head leaves -/
structure Tx (w : World) (K : PySem.W.Frag) (mg : Str → Option Value) : Prop where
  at_ : ∃ h : Heap, K.In h ∧ h.Ns mainGlobals mg
  c : He.SaysT fa.flatten fn.flatten ts w K
  ex : exB K = true
section
variable {w : World} {K : PySem.W.Frag} {mg : Str → Option Value}
theorem Tx.fact (T : Tx w K mg) (i j : Nat) {l : List He.Fa} {f : He.Fa} (hl : fa[i]? = some l) (hf : l[j]? = some f) : f.ok K = true :=
  He.SaysD.facts (T.c.d) (List.mem_flatten.mpr ⟨l, List.mem_of_getElem? hl, List.mem_of_getElem? hf⟩)
theorem Tx.glo (T : Tx w K mg) {x : Str} (c : (He.Fa.glo x).ok K = true) : mg x = some (.ref (He.ga K x)) := by
  obtain ⟨h, X, G⟩ := T.at_
  exact He.glo_ok X G c
theorem Tx.free (T : Tx w K mg) {x : Str} (c : (He.Fa.free x).ok K = true) : mg x = none := by
  obtain ⟨h, X, G⟩ := T.at_
  exact He.free_ok X G c
theorem Tx.int (T : Tx w K mg) {x : Str} {i : Int} (c : (He.Fa.int x i).ok K = true) : ∃ t, mg x = some (.int i t) := by
  obtain ⟨h, X, G⟩ := T.at_
  exact He.int_ok X G c
theorem Tx.str (T : Tx w K mg) {x z : Str} (c : (He.Fa.str x z).ok K = true) : ∃ t, mg x = some (.str z t) := by
  obtain ⟨h, X, G⟩ := T.at_
  exact He.str_ok X G c
theorem Tx.def_ (T : Tx w K mg) (i j : Nat) {l : List He.DefD} {d : He.DefD} (hl : fn[i]? = some l) (hd : l[j]? = some d) : FunD K d.name d.qual d.params d.body d.scope (d.dvs K) (d.kws K) (He.fAd K d.at_) (fdf K d.at_) := by
  obtain ⟨fd, F⟩ := He.SaysD.defs (T.c.d) (d := d) (List.mem_flatten.mpr ⟨l, List.mem_of_getElem? hl, List.mem_of_getElem? hd⟩)
  have e : fdf K d.at_ = fd := by
    obtain ⟨oc, od, dV, kV, doc, pm, an, cdv, ct, osl, _, lk, _⟩ := F.ex
    unfold fdf
    rw [lk]
  rw [e]
  exact F
theorem Tx.g_find_named (T : Tx w K mg) : mg "find_named" = some (.ref (He.ga K "find_named")) := T.glo (T.fact 0 0 rfl rfl)
theorem Tx.g_put_named (T : Tx w K mg) : mg "put_named" = some (.ref (He.ga K "put_named")) := T.glo (T.fact 0 1 rfl rfl)
theorem Tx.g_drop_named (T : Tx w K mg) : mg "drop_named" = some (.ref (He.ga K "drop_named")) := T.glo (T.fact 0 2 rfl rfl)
theorem Tx.g_craft_of (T : Tx w K mg) : mg "craft_of" = some (.ref (He.ga K "craft_of")) := T.glo (T.fact 0 3 rfl rfl)
theorem Tx.g_site_of (T : Tx w K mg) : mg "site_of" = some (.ref (He.ga K "site_of")) := T.glo (T.fact 0 4 rfl rfl)
theorem Tx.g_check (T : Tx w K mg) : mg "check" = some (.ref (He.ga K "check")) := T.glo (T.fact 0 5 rfl rfl)
theorem Tx.g_is_name (T : Tx w K mg) : mg "is_name" = some (.ref (He.ga K "is_name")) := T.glo (T.fact 0 6 rfl rfl)
theorem Tx.g_is_tick (T : Tx w K mg) : mg "is_tick" = some (.ref (He.ga K "is_tick")) := T.glo (T.fact 0 7 rfl rfl)
theorem Tx.g_is_box (T : Tx w K mg) : mg "is_box" = some (.ref (He.ga K "is_box")) := T.glo (T.fact 0 8 rfl rfl)
theorem Tx.g_same_craft (T : Tx w K mg) : mg "same_craft" = some (.ref (He.ga K "same_craft")) := T.glo (T.fact 0 9 rfl rfl)
theorem Tx.g_craft_data (T : Tx w K mg) : mg "craft_data" = some (.ref (He.ga K "craft_data")) := T.glo (T.fact 0 10 rfl rfl)
theorem Tx.g_body_data (T : Tx w K mg) : mg "body_data" = some (.ref (He.ga K "body_data")) := T.glo (T.fact 0 11 rfl rfl)
theorem Tx.g_entries (T : Tx w K mg) : mg "entries" = some (.ref (He.ga K "entries")) := T.glo (T.fact 0 12 rfl rfl)
theorem Tx.g_first_difference (T : Tx w K mg) : mg "first_difference" = some (.ref (He.ga K "first_difference")) := T.glo (T.fact 0 13 rfl rfl)
theorem Tx.g_touched_at (T : Tx w K mg) : mg "touched_at" = some (.ref (He.ga K "touched_at")) := T.glo (T.fact 0 14 rfl rfl)
theorem Tx.g_rules_differ (T : Tx w K mg) : mg "rules_differ" = some (.ref (He.ga K "rules_differ")) := T.glo (T.fact 0 15 rfl rfl)
theorem Tx.g_touched_crafts (T : Tx w K mg) : mg "touched_crafts" = some (.ref (He.ga K "touched_crafts")) := T.glo (T.fact 0 16 rfl rfl)
theorem Tx.g_touched_sites (T : Tx w K mg) : mg "touched_sites" = some (.ref (He.ga K "touched_sites")) := T.glo (T.fact 0 17 rfl rfl)
theorem Tx.g_gone (T : Tx w K mg) : mg "gone" = some (.ref (He.ga K "gone")) := T.glo (T.fact 0 18 rfl rfl)
theorem Tx.g_differences (T : Tx w K mg) : mg "differences" = some (.ref (He.ga K "differences")) := T.glo (T.fact 0 19 rfl rfl)
theorem Tx.g_with_crafts (T : Tx w K mg) : mg "with_crafts" = some (.ref (He.ga K "with_crafts")) := T.glo (T.fact 0 20 rfl rfl)
theorem Tx.g_with_sites (T : Tx w K mg) : mg "with_sites" = some (.ref (He.ga K "with_sites")) := T.glo (T.fact 0 21 rfl rfl)
theorem Tx.g_changed_craft (T : Tx w K mg) : mg "changed_craft" = some (.ref (He.ga K "changed_craft")) := T.glo (T.fact 0 22 rfl rfl)
theorem Tx.g_add_craft (T : Tx w K mg) : mg "add_craft" = some (.ref (He.ga K "add_craft")) := T.glo (T.fact 0 23 rfl rfl)
theorem Tx.g_drop_craft (T : Tx w K mg) : mg "drop_craft" = some (.ref (He.ga K "drop_craft")) := T.glo (T.fact 0 24 rfl rfl)
theorem Tx.g_set_drift (T : Tx w K mg) : mg "set_drift" = some (.ref (He.ga K "set_drift")) := T.glo (T.fact 0 25 rfl rfl)
theorem Tx.g_add_burn (T : Tx w K mg) : mg "add_burn" = some (.ref (He.ga K "add_burn")) := T.glo (T.fact 0 26 rfl rfl)
theorem Tx.g_drop_burn (T : Tx w K mg) : mg "drop_burn" = some (.ref (He.ga K "drop_burn")) := T.glo (T.fact 0 27 rfl rfl)
theorem Tx.g_add_sighting (T : Tx w K mg) : mg "add_sighting" = some (.ref (He.ga K "add_sighting")) := T.glo (T.fact 0 28 rfl rfl)
theorem Tx.g_drop_sighting (T : Tx w K mg) : mg "drop_sighting" = some (.ref (He.ga K "drop_sighting")) := T.glo (T.fact 0 29 rfl rfl)
theorem Tx.g_add_site (T : Tx w K mg) : mg "add_site" = some (.ref (He.ga K "add_site")) := T.glo (T.fact 1 0 rfl rfl)
theorem Tx.g_drop_site (T : Tx w K mg) : mg "drop_site" = some (.ref (He.ga K "drop_site")) := T.glo (T.fact 1 1 rfl rfl)
theorem Tx.g_set_stride (T : Tx w K mg) : mg "set_stride" = some (.ref (He.ga K "set_stride")) := T.glo (T.fact 1 2 rfl rfl)
theorem Tx.g_set_fineness (T : Tx w K mg) : mg "set_fineness" = some (.ref (He.ga K "set_fineness")) := T.glo (T.fact 1 3 rfl rfl)
theorem Tx.g_apply_edit (T : Tx w K mg) : mg "apply_edit" = some (.ref (He.ga K "apply_edit")) := T.glo (T.fact 1 4 rfl rfl)
theorem Tx.g_write_line (T : Tx w K mg) : mg "write_line" = some (.ref (He.ga K "write_line")) := T.glo (T.fact 1 5 rfl rfl)
theorem Tx.g_box_numbers (T : Tx w K mg) : mg "box_numbers" = some (.ref (He.ga K "box_numbers")) := T.glo (T.fact 1 6 rfl rfl)
theorem Tx.g_texts (T : Tx w K mg) : mg "texts" = some (.ref (He.ga K "texts")) := T.glo (T.fact 1 7 rfl rfl)
theorem Tx.g_craft_lines (T : Tx w K mg) : mg "craft_lines" = some (.ref (He.ga K "craft_lines")) := T.glo (T.fact 1 8 rfl rfl)
theorem Tx.g_head_lines (T : Tx w K mg) : mg "head_lines" = some (.ref (He.ga K "head_lines")) := T.glo (T.fact 1 9 rfl rfl)
theorem Tx.g_saved_text (T : Tx w K mg) : mg "saved_text" = some (.ref (He.ga K "saved_text")) := T.glo (T.fact 1 10 rfl rfl)
theorem Tx.g_add (T : Tx w K mg) : mg "add" = some (.ref (He.ga K "add")) := T.glo (T.fact 1 11 rfl rfl)
theorem Tx.g_subtract (T : Tx w K mg) : mg "subtract" = some (.ref (He.ga K "subtract")) := T.glo (T.fact 1 12 rfl rfl)
theorem Tx.g_scaled (T : Tx w K mg) : mg "scaled" = some (.ref (He.ga K "scaled")) := T.glo (T.fact 1 13 rfl rfl)
theorem Tx.g_multiply (T : Tx w K mg) : mg "multiply" = some (.ref (He.ga K "multiply")) := T.glo (T.fact 1 14 rfl rfl)
theorem Tx.g_square (T : Tx w K mg) : mg "square" = some (.ref (He.ga K "square")) := T.glo (T.fact 1 15 rfl rfl)
theorem Tx.g_quotient (T : Tx w K mg) : mg "quotient" = some (.ref (He.ga K "quotient")) := T.glo (T.fact 1 16 rfl rfl)
theorem Tx.g_root (T : Tx w K mg) : mg "root" = some (.ref (He.ga K "root")) := T.glo (T.fact 1 17 rfl rfl)
theorem Tx.g_meet (T : Tx w K mg) : mg "meet" = some (.ref (He.ga K "meet")) := T.glo (T.fact 1 18 rfl rfl)
theorem Tx.g_hull (T : Tx w K mg) : mg "hull" = some (.ref (He.ga K "hull")) := T.glo (T.fact 1 19 rfl rfl)
theorem Tx.g_widened (T : Tx w K mg) : mg "widened" = some (.ref (He.ga K "widened")) := T.glo (T.fact 1 20 rfl rfl)
theorem Tx.g_middle (T : Tx w K mg) : mg "middle" = some (.ref (He.ga K "middle")) := T.glo (T.fact 1 21 rfl rfl)
theorem Tx.g_width (T : Tx w K mg) : mg "width" = some (.ref (He.ga K "width")) := T.glo (T.fact 1 22 rfl rfl)
theorem Tx.g_size (T : Tx w K mg) : mg "size" = some (.ref (He.ga K "size")) := T.glo (T.fact 1 23 rfl rfl)
theorem Tx.g_box_add (T : Tx w K mg) : mg "box_add" = some (.ref (He.ga K "box_add")) := T.glo (T.fact 1 24 rfl rfl)
theorem Tx.g_box_hull (T : Tx w K mg) : mg "box_hull" = some (.ref (He.ga K "box_hull")) := T.glo (T.fact 1 25 rfl rfl)
theorem Tx.g_box_widened (T : Tx w K mg) : mg "box_widened" = some (.ref (He.ga K "box_widened")) := T.glo (T.fact 1 26 rfl rfl)
theorem Tx.g_box_meet (T : Tx w K mg) : mg "box_meet" = some (.ref (He.ga K "box_meet")) := T.glo (T.fact 1 27 rfl rfl)
theorem Tx.g_square_length (T : Tx w K mg) : mg "square_length" = some (.ref (He.ga K "square_length")) := T.glo (T.fact 1 28 rfl rfl)
theorem Tx.g_box_size (T : Tx w K mg) : mg "box_size" = some (.ref (He.ga K "box_size")) := T.glo (T.fact 1 29 rfl rfl)
theorem Tx.g_pull_over (T : Tx w K mg) : mg "pull_over" = some (.ref (He.ga K "pull_over")) := T.glo (T.fact 2 0 rfl rfl)
theorem Tx.g_push_at (T : Tx w K mg) : mg "push_at" = some (.ref (He.ga K "push_at")) := T.glo (T.fact 2 1 rfl rfl)
theorem Tx.g_put (T : Tx w K mg) : mg "put" = some (.ref (He.ga K "put")) := T.glo (T.fact 2 2 rfl rfl)
theorem Tx.g_split (T : Tx w K mg) : mg "split" = some (.ref (He.ga K "split")) := T.glo (T.fact 2 3 rfl rfl)
theorem Tx.g_parts_of (T : Tx w K mg) : mg "parts_of" = some (.ref (He.ga K "parts_of")) := T.glo (T.fact 2 4 rfl rfl)
theorem Tx.g_step (T : Tx w K mg) : mg "step" = some (.ref (He.ga K "step")) := T.glo (T.fact 2 5 rfl rfl)
theorem Tx.g_cut (T : Tx w K mg) : mg "cut" = some (.ref (He.ga K "cut")) := T.glo (T.fact 2 6 rfl rfl)
theorem Tx.g_sighting_at (T : Tx w K mg) : mg "sighting_at" = some (.ref (He.ga K "sighting_at")) := T.glo (T.fact 2 7 rfl rfl)
theorem Tx.g_cut_all (T : Tx w K mg) : mg "cut_all" = some (.ref (He.ga K "cut_all")) := T.glo (T.fact 2 8 rfl rfl)
theorem Tx.g_first_states (T : Tx w K mg) : mg "first_states" = some (.ref (He.ga K "first_states")) := T.glo (T.fact 2 9 rfl rfl)
theorem Tx.g_next_rows (T : Tx w K mg) : mg "next_rows" = some (.ref (He.ga K "next_rows")) := T.glo (T.fact 2 10 rfl rfl)
theorem Tx.g_course (T : Tx w K mg) : mg "course" = some (.ref (He.ga K "course")) := T.glo (T.fact 2 11 rfl rfl)
theorem Tx.g_law_row (T : Tx w K mg) : mg "_law_row" = some (.ref (He.ga K "_law_row")) := T.glo (T.fact 2 12 rfl rfl)
theorem Tx.g_law_spread (T : Tx w K mg) : mg "_law_spread" = some (.ref (He.ga K "_law_spread")) := T.glo (T.fact 2 13 rfl rfl)
theorem Tx.g_law_box (T : Tx w K mg) : mg "_law_box" = some (.ref (He.ga K "_law_box")) := T.glo (T.fact 2 14 rfl rfl)
theorem Tx.g_law_craft (T : Tx w K mg) : mg "_law_craft" = some (.ref (He.ga K "_law_craft")) := T.glo (T.fact 2 15 rfl rfl)
theorem Tx.g_law_world (T : Tx w K mg) : mg "_law_world" = some (.ref (He.ga K "_law_world")) := T.glo (T.fact 2 16 rfl rfl)
theorem Tx.g_law_turn (T : Tx w K mg) : mg "_law_turn" = some (.ref (He.ga K "_law_turn")) := T.glo (T.fact 2 17 rfl rfl)
theorem Tx.g_law_data (T : Tx w K mg) : mg "_law_data" = some (.ref (He.ga K "_law_data")) := T.glo (T.fact 2 18 rfl rfl)
theorem Tx.g_law_made (T : Tx w K mg) : mg "_law_made" = some (.ref (He.ga K "_law_made")) := T.glo (T.fact 2 19 rfl rfl)
theorem Tx.g_law_wide (T : Tx w K mg) : mg "_law_wide" = some (.ref (He.ga K "_law_wide")) := T.glo (T.fact 2 20 rfl rfl)
theorem Tx.g_law_drawn_edit (T : Tx w K mg) : mg "_law_drawn_edit" = some (.ref (He.ga K "_law_drawn_edit")) := T.glo (T.fact 2 21 rfl rfl)
theorem Tx.g_law_pieces (T : Tx w K mg) : mg "_law_pieces" = some (.ref (He.ga K "_law_pieces")) := T.glo (T.fact 2 22 rfl rfl)
theorem Tx.g_law (T : Tx w K mg) : mg "law" = some (.ref (He.ga K "law")) := T.glo (T.fact 2 23 rfl rfl)
theorem Tx.g_Body (T : Tx w K mg) : mg "Body" = some (.ref (He.ga K "Body")) := T.glo (T.fact 2 24 rfl rfl)
theorem Tx.g_Burn (T : Tx w K mg) : mg "Burn" = some (.ref (He.ga K "Burn")) := T.glo (T.fact 2 25 rfl rfl)
theorem Tx.g_Sighting (T : Tx w K mg) : mg "Sighting" = some (.ref (He.ga K "Sighting")) := T.glo (T.fact 2 26 rfl rfl)
theorem Tx.g_Craft (T : Tx w K mg) : mg "Craft" = some (.ref (He.ga K "Craft")) := T.glo (T.fact 2 27 rfl rfl)
theorem Tx.g_Site (T : Tx w K mg) : mg "Site" = some (.ref (He.ga K "Site")) := T.glo (T.fact 2 28 rfl rfl)
theorem Tx.g_Contents (T : Tx w K mg) : mg "Contents" = some (.ref (He.ga K "Contents")) := T.glo (T.fact 2 29 rfl rfl)
theorem Tx.g_State (T : Tx w K mg) : mg "State" = some (.ref (He.ga K "State")) := T.glo (T.fact 3 0 rfl rfl)
theorem Tx.g_Piece (T : Tx w K mg) : mg "Piece" = some (.ref (He.ga K "Piece")) := T.glo (T.fact 3 1 rfl rfl)
theorem Tx.g_Course (T : Tx w K mg) : mg "Course" = some (.ref (He.ga K "Course")) := T.glo (T.fact 3 2 rfl rfl)
theorem Tx.g_Catalogue (T : Tx w K mg) : mg "Catalogue" = some (.ref (He.ga K "Catalogue")) := T.glo (T.fact 3 3 rfl rfl)
theorem Tx.g_TooMany (T : Tx w K mg) : mg "TooMany" = some (.ref (He.ga K "TooMany")) := T.glo (T.fact 3 4 rfl rfl)
theorem Tx.g_BeforeStart (T : Tx w K mg) : mg "BeforeStart" = some (.ref (He.ga K "BeforeStart")) := T.glo (T.fact 3 5 rfl rfl)
theorem Tx.g_BurnsOverlap (T : Tx w K mg) : mg "BurnsOverlap" = some (.ref (He.ga K "BurnsOverlap")) := T.glo (T.fact 3 6 rfl rfl)
theorem Tx.g_NoSuchBurn (T : Tx w K mg) : mg "NoSuchBurn" = some (.ref (He.ga K "NoSuchBurn")) := T.glo (T.fact 3 7 rfl rfl)
theorem Tx.g_NoSuchSighting (T : Tx w K mg) : mg "NoSuchSighting" = some (.ref (He.ga K "NoSuchSighting")) := T.glo (T.fact 3 8 rfl rfl)
theorem Tx.g_NoSuchCraft (T : Tx w K mg) : mg "NoSuchCraft" = some (.ref (He.ga K "NoSuchCraft")) := T.glo (T.fact 3 9 rfl rfl)
theorem Tx.g_NoSuchSite (T : Tx w K mg) : mg "NoSuchSite" = some (.ref (He.ga K "NoSuchSite")) := T.glo (T.fact 3 10 rfl rfl)
theorem Tx.g_OrreryError (T : Tx w K mg) : mg "OrreryError" = some (.ref (He.ga K "OrreryError")) := T.glo (T.fact 3 11 rfl rfl)
theorem Tx.g_ONE (T : Tx w K mg) : mg "ONE" = some (.ref (He.ga K "ONE")) := T.glo (T.fact 3 12 rfl rfl)
theorem Tx.g_TWO (T : Tx w K mg) : mg "TWO" = some (.ref (He.ga K "TWO")) := T.glo (T.fact 3 13 rfl rfl)
theorem Tx.g_FACTORS (T : Tx w K mg) : mg "FACTORS" = some (.ref (He.ga K "FACTORS")) := T.glo (T.fact 3 14 rfl rfl)
theorem Tx.g_NOTHING (T : Tx w K mg) : mg "NOTHING" = some (.ref (He.ga K "NOTHING")) := T.glo (T.fact 3 15 rfl rfl)
theorem Tx.n_len (T : Tx w K mg) : mg "len" = none := T.free (T.fact 3 16 rfl rfl)
theorem Tx.n_range (T : Tx w K mg) : mg "range" = none := T.free (T.fact 3 17 rfl rfl)
theorem Tx.n_tuple (T : Tx w K mg) : mg "tuple" = none := T.free (T.fact 3 18 rfl rfl)
theorem Tx.n_list (T : Tx w K mg) : mg "list" = none := T.free (T.fact 3 19 rfl rfl)
theorem Tx.n_max (T : Tx w K mg) : mg "max" = none := T.free (T.fact 3 20 rfl rfl)
theorem Tx.n_min (T : Tx w K mg) : mg "min" = none := T.free (T.fact 3 21 rfl rfl)
theorem Tx.n_abs (T : Tx w K mg) : mg "abs" = none := T.free (T.fact 3 22 rfl rfl)
theorem Tx.n_int (T : Tx w K mg) : mg "int" = none := T.free (T.fact 3 23 rfl rfl)
theorem Tx.n_str (T : Tx w K mg) : mg "str" = none := T.free (T.fact 3 24 rfl rfl)
theorem Tx.n_zip (T : Tx w K mg) : mg "zip" = none := T.free (T.fact 3 25 rfl rfl)
theorem Tx.n_super (T : Tx w K mg) : mg "super" = none := T.free (T.fact 3 26 rfl rfl)
theorem Tx.i_LAST_TICK (T : Tx w K mg) : ∃ t, mg "LAST_TICK" = some (.int 100000 t) := T.int (T.fact 3 27 rfl rfl)
theorem Tx.i_MOST (T : Tx w K mg) : ∃ t, mg "MOST" = some (.int 1000000000000000 t) := T.int (T.fact 3 28 rfl rfl)
theorem Tx.i_MOST_DRIFT (T : Tx w K mg) : ∃ t, mg "MOST_DRIFT" = some (.int 1000000000000 t) := T.int (T.fact 3 29 rfl rfl)
theorem Tx.i_MOST_CRAFT (T : Tx w K mg) : ∃ t, mg "MOST_CRAFT" = some (.int 20 t) := T.int (T.fact 4 0 rfl rfl)
theorem Tx.i_MOST_SITES (T : Tx w K mg) : ∃ t, mg "MOST_SITES" = some (.int 10 t) := T.int (T.fact 4 1 rfl rfl)
theorem Tx.i_MOST_OF_CRAFT (T : Tx w K mg) : ∃ t, mg "MOST_OF_CRAFT" = some (.int 20 t) := T.int (T.fact 4 2 rfl rfl)
theorem Tx.i_KEPT (T : Tx w K mg) : ∃ t, mg "KEPT" = some (.int 100 t) := T.int (T.fact 4 3 rfl rfl)
theorem Tx.i_LIMIT (T : Tx w K mg) : ∃ t, mg "LIMIT" = some (.int 10000000000000000000000000000000000000000 t) := T.int (T.fact 4 4 rfl rfl)
theorem Tx.i_HEAD (T : Tx w K mg) : ∃ t, mg "HEAD" = some (.str "orrery contents" t) := T.str (T.fact 4 5 rfl rfl)
theorem Tx.cl_Body (T : Tx w K mg) : Cls K (He.ga K "Body") := He.cls_ok (T.fact 4 6 rfl rfl)
theorem Tx.mk_Body (T : Tx w K mg) : Mk K (He.ga K "Body") (He.ma K (He.ga K "Body") "__init__") := He.mkr_ok (T.fact 4 16 rfl rfl)
theorem Tx.na_Body_mu (T : Tx w K mg) : NoAttr K (He.ga K "Body") "mu" := He.noat_ok (T.fact 4 26 rfl rfl)
theorem Tx.na_Body_oblateness (T : Tx w K mg) : NoAttr K (He.ga K "Body") "oblateness" := He.noat_ok (T.fact 4 27 rfl rfl)
theorem Tx.na_Body_turn (T : Tx w K mg) : NoAttr K (He.ga K "Body") "turn" := He.noat_ok (T.fact 4 28 rfl rfl)
theorem Tx.cl_Burn (T : Tx w K mg) : Cls K (He.ga K "Burn") := He.cls_ok (T.fact 4 7 rfl rfl)
theorem Tx.mk_Burn (T : Tx w K mg) : Mk K (He.ga K "Burn") (He.ma K (He.ga K "Burn") "__init__") := He.mkr_ok (T.fact 4 17 rfl rfl)
theorem Tx.na_Burn_begin (T : Tx w K mg) : NoAttr K (He.ga K "Burn") "begin" := He.noat_ok (T.fact 4 29 rfl rfl)
theorem Tx.na_Burn_end (T : Tx w K mg) : NoAttr K (He.ga K "Burn") "end" := He.noat_ok (T.fact 5 0 rfl rfl)
theorem Tx.na_Burn_push (T : Tx w K mg) : NoAttr K (He.ga K "Burn") "push" := He.noat_ok (T.fact 5 1 rfl rfl)
theorem Tx.cl_Sighting (T : Tx w K mg) : Cls K (He.ga K "Sighting") := He.cls_ok (T.fact 4 8 rfl rfl)
theorem Tx.mk_Sighting (T : Tx w K mg) : Mk K (He.ga K "Sighting") (He.ma K (He.ga K "Sighting") "__init__") := He.mkr_ok (T.fact 4 18 rfl rfl)
theorem Tx.na_Sighting_at (T : Tx w K mg) : NoAttr K (He.ga K "Sighting") "at" := He.noat_ok (T.fact 5 2 rfl rfl)
theorem Tx.na_Sighting_place (T : Tx w K mg) : NoAttr K (He.ga K "Sighting") "place" := He.noat_ok (T.fact 5 3 rfl rfl)
theorem Tx.cl_Craft (T : Tx w K mg) : Cls K (He.ga K "Craft") := He.cls_ok (T.fact 4 9 rfl rfl)
theorem Tx.mk_Craft (T : Tx w K mg) : Mk K (He.ga K "Craft") (He.ma K (He.ga K "Craft") "__init__") := He.mkr_ok (T.fact 4 19 rfl rfl)
theorem Tx.na_Craft_name (T : Tx w K mg) : NoAttr K (He.ga K "Craft") "name" := He.noat_ok (T.fact 5 4 rfl rfl)
theorem Tx.na_Craft_start (T : Tx w K mg) : NoAttr K (He.ga K "Craft") "start" := He.noat_ok (T.fact 5 5 rfl rfl)
theorem Tx.na_Craft_place (T : Tx w K mg) : NoAttr K (He.ga K "Craft") "place" := He.noat_ok (T.fact 5 6 rfl rfl)
theorem Tx.na_Craft_speed (T : Tx w K mg) : NoAttr K (He.ga K "Craft") "speed" := He.noat_ok (T.fact 5 7 rfl rfl)
theorem Tx.na_Craft_drift (T : Tx w K mg) : NoAttr K (He.ga K "Craft") "drift" := He.noat_ok (T.fact 5 8 rfl rfl)
theorem Tx.na_Craft_burns (T : Tx w K mg) : NoAttr K (He.ga K "Craft") "burns" := He.noat_ok (T.fact 5 9 rfl rfl)
theorem Tx.na_Craft_sightings (T : Tx w K mg) : NoAttr K (He.ga K "Craft") "sightings" := He.noat_ok (T.fact 5 10 rfl rfl)
theorem Tx.cl_Site (T : Tx w K mg) : Cls K (He.ga K "Site") := He.cls_ok (T.fact 4 10 rfl rfl)
theorem Tx.mk_Site (T : Tx w K mg) : Mk K (He.ga K "Site") (He.ma K (He.ga K "Site") "__init__") := He.mkr_ok (T.fact 4 20 rfl rfl)
theorem Tx.na_Site_name (T : Tx w K mg) : NoAttr K (He.ga K "Site") "name" := He.noat_ok (T.fact 5 11 rfl rfl)
theorem Tx.na_Site_place (T : Tx w K mg) : NoAttr K (He.ga K "Site") "place" := He.noat_ok (T.fact 5 12 rfl rfl)
theorem Tx.cl_Contents (T : Tx w K mg) : Cls K (He.ga K "Contents") := He.cls_ok (T.fact 4 11 rfl rfl)
theorem Tx.mk_Contents (T : Tx w K mg) : Mk K (He.ga K "Contents") (He.ma K (He.ga K "Contents") "__init__") := He.mkr_ok (T.fact 4 21 rfl rfl)
theorem Tx.na_Contents_body (T : Tx w K mg) : NoAttr K (He.ga K "Contents") "body" := He.noat_ok (T.fact 5 13 rfl rfl)
theorem Tx.na_Contents_stride (T : Tx w K mg) : NoAttr K (He.ga K "Contents") "stride" := He.noat_ok (T.fact 5 14 rfl rfl)
theorem Tx.na_Contents_fineness (T : Tx w K mg) : NoAttr K (He.ga K "Contents") "fineness" := He.noat_ok (T.fact 5 15 rfl rfl)
theorem Tx.na_Contents_crafts (T : Tx w K mg) : NoAttr K (He.ga K "Contents") "crafts" := He.noat_ok (T.fact 5 16 rfl rfl)
theorem Tx.na_Contents_sites (T : Tx w K mg) : NoAttr K (He.ga K "Contents") "sites" := He.noat_ok (T.fact 5 17 rfl rfl)
theorem Tx.cl_State (T : Tx w K mg) : Cls K (He.ga K "State") := He.cls_ok (T.fact 4 12 rfl rfl)
theorem Tx.mk_State (T : Tx w K mg) : Mk K (He.ga K "State") (He.ma K (He.ga K "State") "__init__") := He.mkr_ok (T.fact 4 22 rfl rfl)
theorem Tx.na_State_place (T : Tx w K mg) : NoAttr K (He.ga K "State") "place" := He.noat_ok (T.fact 5 18 rfl rfl)
theorem Tx.na_State_speed (T : Tx w K mg) : NoAttr K (He.ga K "State") "speed" := He.noat_ok (T.fact 5 19 rfl rfl)
theorem Tx.cl_Piece (T : Tx w K mg) : Cls K (He.ga K "Piece") := He.cls_ok (T.fact 4 13 rfl rfl)
theorem Tx.mk_Piece (T : Tx w K mg) : Mk K (He.ga K "Piece") (He.ma K (He.ga K "Piece") "__init__") := He.mkr_ok (T.fact 4 23 rfl rfl)
theorem Tx.na_Piece_begin (T : Tx w K mg) : NoAttr K (He.ga K "Piece") "begin" := He.noat_ok (T.fact 5 20 rfl rfl)
theorem Tx.na_Piece_end (T : Tx w K mg) : NoAttr K (He.ga K "Piece") "end" := He.noat_ok (T.fact 5 21 rfl rfl)
theorem Tx.na_Piece_parts (T : Tx w K mg) : NoAttr K (He.ga K "Piece") "parts" := He.noat_ok (T.fact 5 22 rfl rfl)
theorem Tx.cl_Course (T : Tx w K mg) : Cls K (He.ga K "Course") := He.cls_ok (T.fact 4 14 rfl rfl)
theorem Tx.mk_Course (T : Tx w K mg) : Mk K (He.ga K "Course") (He.ma K (He.ga K "Course") "__init__") := He.mkr_ok (T.fact 4 24 rfl rfl)
theorem Tx.na_Course_pieces (T : Tx w K mg) : NoAttr K (He.ga K "Course") "pieces" := He.noat_ok (T.fact 5 23 rfl rfl)
theorem Tx.na_Course_ending (T : Tx w K mg) : NoAttr K (He.ga K "Course") "ending" := He.noat_ok (T.fact 5 24 rfl rfl)
theorem Tx.cl_Catalogue (T : Tx w K mg) : Cls K (He.ga K "Catalogue") := He.cls_ok (T.fact 4 15 rfl rfl)
theorem Tx.mk_Catalogue (T : Tx w K mg) : Mk K (He.ga K "Catalogue") (He.ma K (He.ga K "Catalogue") "__init__") := He.mkr_ok (T.fact 4 25 rfl rfl)
theorem Tx.na_Catalogue_contents (T : Tx w K mg) : NoAttr K (He.ga K "Catalogue") "contents" := He.noat_ok (T.fact 5 25 rfl rfl)
theorem Tx.na_Catalogue_version (T : Tx w K mg) : NoAttr K (He.ga K "Catalogue") "version" := He.noat_ok (T.fact 5 26 rfl rfl)
theorem Tx.na_Catalogue_earlier (T : Tx w K mg) : NoAttr K (He.ga K "Catalogue") "earlier" := He.noat_ok (T.fact 5 27 rfl rfl)
theorem Tx.me_edit (T : Tx w K mg) : Meth K (He.ga K "Catalogue") "edit" (He.ma K (He.ga K "Catalogue") "edit") := He.meth_ok (T.fact 5 28 rfl rfl)
theorem Tx.me_undo (T : Tx w K mg) : Meth K (He.ga K "Catalogue") "undo" (He.ma K (He.ga K "Catalogue") "undo") := He.meth_ok (T.fact 5 29 rfl rfl)
theorem Tx.e_TooMany (T : Tx w K mg) : PySem.W.excIn K (He.ga K "TooMany") He.veBase "ValueError.__new__" = true ∧ PySem.W.keepIn K (.ref (He.ga K "TooMany")) = true ∧ PySem.W.subIn K (.ref (He.ga K "TooMany")) (.type "BaseException") = some true ∧ PySem.W.typeIn K (.ref (He.ga K "TooMany")) = some (.type "type") := He.exc_ok (T.fact 6 0 rfl rfl)
theorem Tx.x_TooMany (T : Tx w K mg) : PySem.W.excIn K (He.ga K "TooMany") He.veBase "ValueError.__new__" = true := T.e_TooMany.1
theorem Tx.kx_TooMany (T : Tx w K mg) : PySem.W.keepIn K (.ref (He.ga K "TooMany")) = true := T.e_TooMany.2.1
theorem Tx.bx_TooMany (T : Tx w K mg) : PySem.W.subIn K (.ref (He.ga K "TooMany")) (.type "BaseException") = some true := T.e_TooMany.2.2.1
theorem Tx.tx_TooMany (T : Tx w K mg) : PySem.W.typeIn K (.ref (He.ga K "TooMany")) = some (.type "type") := T.e_TooMany.2.2.2
theorem Tx.e_BeforeStart (T : Tx w K mg) : PySem.W.excIn K (He.ga K "BeforeStart") He.veBase "ValueError.__new__" = true ∧ PySem.W.keepIn K (.ref (He.ga K "BeforeStart")) = true ∧ PySem.W.subIn K (.ref (He.ga K "BeforeStart")) (.type "BaseException") = some true ∧ PySem.W.typeIn K (.ref (He.ga K "BeforeStart")) = some (.type "type") := He.exc_ok (T.fact 6 1 rfl rfl)
theorem Tx.x_BeforeStart (T : Tx w K mg) : PySem.W.excIn K (He.ga K "BeforeStart") He.veBase "ValueError.__new__" = true := T.e_BeforeStart.1
theorem Tx.kx_BeforeStart (T : Tx w K mg) : PySem.W.keepIn K (.ref (He.ga K "BeforeStart")) = true := T.e_BeforeStart.2.1
theorem Tx.bx_BeforeStart (T : Tx w K mg) : PySem.W.subIn K (.ref (He.ga K "BeforeStart")) (.type "BaseException") = some true := T.e_BeforeStart.2.2.1
theorem Tx.tx_BeforeStart (T : Tx w K mg) : PySem.W.typeIn K (.ref (He.ga K "BeforeStart")) = some (.type "type") := T.e_BeforeStart.2.2.2
theorem Tx.e_BurnsOverlap (T : Tx w K mg) : PySem.W.excIn K (He.ga K "BurnsOverlap") He.veBase "ValueError.__new__" = true ∧ PySem.W.keepIn K (.ref (He.ga K "BurnsOverlap")) = true ∧ PySem.W.subIn K (.ref (He.ga K "BurnsOverlap")) (.type "BaseException") = some true ∧ PySem.W.typeIn K (.ref (He.ga K "BurnsOverlap")) = some (.type "type") := He.exc_ok (T.fact 6 2 rfl rfl)
theorem Tx.x_BurnsOverlap (T : Tx w K mg) : PySem.W.excIn K (He.ga K "BurnsOverlap") He.veBase "ValueError.__new__" = true := T.e_BurnsOverlap.1
theorem Tx.kx_BurnsOverlap (T : Tx w K mg) : PySem.W.keepIn K (.ref (He.ga K "BurnsOverlap")) = true := T.e_BurnsOverlap.2.1
theorem Tx.bx_BurnsOverlap (T : Tx w K mg) : PySem.W.subIn K (.ref (He.ga K "BurnsOverlap")) (.type "BaseException") = some true := T.e_BurnsOverlap.2.2.1
theorem Tx.tx_BurnsOverlap (T : Tx w K mg) : PySem.W.typeIn K (.ref (He.ga K "BurnsOverlap")) = some (.type "type") := T.e_BurnsOverlap.2.2.2
theorem Tx.e_NoSuchBurn (T : Tx w K mg) : PySem.W.excIn K (He.ga K "NoSuchBurn") He.veBase "ValueError.__new__" = true ∧ PySem.W.keepIn K (.ref (He.ga K "NoSuchBurn")) = true ∧ PySem.W.subIn K (.ref (He.ga K "NoSuchBurn")) (.type "BaseException") = some true ∧ PySem.W.typeIn K (.ref (He.ga K "NoSuchBurn")) = some (.type "type") := He.exc_ok (T.fact 6 3 rfl rfl)
theorem Tx.x_NoSuchBurn (T : Tx w K mg) : PySem.W.excIn K (He.ga K "NoSuchBurn") He.veBase "ValueError.__new__" = true := T.e_NoSuchBurn.1
theorem Tx.kx_NoSuchBurn (T : Tx w K mg) : PySem.W.keepIn K (.ref (He.ga K "NoSuchBurn")) = true := T.e_NoSuchBurn.2.1
theorem Tx.bx_NoSuchBurn (T : Tx w K mg) : PySem.W.subIn K (.ref (He.ga K "NoSuchBurn")) (.type "BaseException") = some true := T.e_NoSuchBurn.2.2.1
theorem Tx.tx_NoSuchBurn (T : Tx w K mg) : PySem.W.typeIn K (.ref (He.ga K "NoSuchBurn")) = some (.type "type") := T.e_NoSuchBurn.2.2.2
theorem Tx.e_NoSuchSighting (T : Tx w K mg) : PySem.W.excIn K (He.ga K "NoSuchSighting") He.veBase "ValueError.__new__" = true ∧ PySem.W.keepIn K (.ref (He.ga K "NoSuchSighting")) = true ∧ PySem.W.subIn K (.ref (He.ga K "NoSuchSighting")) (.type "BaseException") = some true ∧ PySem.W.typeIn K (.ref (He.ga K "NoSuchSighting")) = some (.type "type") := He.exc_ok (T.fact 6 4 rfl rfl)
theorem Tx.x_NoSuchSighting (T : Tx w K mg) : PySem.W.excIn K (He.ga K "NoSuchSighting") He.veBase "ValueError.__new__" = true := T.e_NoSuchSighting.1
theorem Tx.kx_NoSuchSighting (T : Tx w K mg) : PySem.W.keepIn K (.ref (He.ga K "NoSuchSighting")) = true := T.e_NoSuchSighting.2.1
theorem Tx.bx_NoSuchSighting (T : Tx w K mg) : PySem.W.subIn K (.ref (He.ga K "NoSuchSighting")) (.type "BaseException") = some true := T.e_NoSuchSighting.2.2.1
theorem Tx.tx_NoSuchSighting (T : Tx w K mg) : PySem.W.typeIn K (.ref (He.ga K "NoSuchSighting")) = some (.type "type") := T.e_NoSuchSighting.2.2.2
theorem Tx.m_TooMany (T : Tx w K mg) : PySem.W.exmOne K (.ref (He.ga K "TooMany")) (.ref (He.ga K "OrreryError")) = some true := He.exm_ok (T.fact 6 5 rfl rfl)
theorem Tx.m_BeforeStart (T : Tx w K mg) : PySem.W.exmOne K (.ref (He.ga K "BeforeStart")) (.ref (He.ga K "OrreryError")) = some true := He.exm_ok (T.fact 6 6 rfl rfl)
theorem Tx.m_BurnsOverlap (T : Tx w K mg) : PySem.W.exmOne K (.ref (He.ga K "BurnsOverlap")) (.ref (He.ga K "OrreryError")) = some true := He.exm_ok (T.fact 6 7 rfl rfl)
theorem Tx.m_NoSuchBurn (T : Tx w K mg) : PySem.W.exmOne K (.ref (He.ga K "NoSuchBurn")) (.ref (He.ga K "OrreryError")) = some true := He.exm_ok (T.fact 6 8 rfl rfl)
theorem Tx.m_NoSuchSighting (T : Tx w K mg) : PySem.W.exmOne K (.ref (He.ga K "NoSuchSighting")) (.ref (He.ga K "OrreryError")) = some true := He.exm_ok (T.fact 6 9 rfl rfl)
theorem Tx.m_NoSuchCraft (T : Tx w K mg) : PySem.W.exmOne K (.ref (He.ga K "NoSuchCraft")) (.ref (He.ga K "OrreryError")) = some true := He.exm_ok (T.fact 6 10 rfl rfl)
theorem Tx.m_NoSuchSite (T : Tx w K mg) : PySem.W.exmOne K (.ref (He.ga K "NoSuchSite")) (.ref (He.ga K "OrreryError")) = some true := He.exm_ok (T.fact 6 11 rfl rfl)
theorem Tx.F_find_named (T : Tx w K mg) : FunD K "find_named" "find_named" (defArgs S_find_named) (defBody S_find_named) (defScope S_find_named) [] [] (He.ga K "find_named") (fdf K at_find_named) := T.def_ 0 0 rfl rfl
theorem Tx.B_find_named (T : Tx w K mg) : Binds K (fdf K at_find_named) ["rows", "name"] [] := FunD.bindsN T.F_find_named fun _ _ _ _ _ _ us hl => match us, hl with | [_, _], _ => rfl
theorem Tx.F_put_named (T : Tx w K mg) : FunD K "put_named" "put_named" (defArgs S_put_named) (defBody S_put_named) (defScope S_put_named) [] [] (He.ga K "put_named") (fdf K at_put_named) := T.def_ 0 1 rfl rfl
theorem Tx.B_put_named (T : Tx w K mg) : Binds K (fdf K at_put_named) ["rows", "thing"] [] := FunD.bindsN T.F_put_named fun _ _ _ _ _ _ us hl => match us, hl with | [_, _], _ => rfl
theorem Tx.F_drop_named (T : Tx w K mg) : FunD K "drop_named" "drop_named" (defArgs S_drop_named) (defBody S_drop_named) (defScope S_drop_named) [] [] (He.ga K "drop_named") (fdf K at_drop_named) := T.def_ 0 2 rfl rfl
theorem Tx.B_drop_named (T : Tx w K mg) : Binds K (fdf K at_drop_named) ["rows", "name"] [] := FunD.bindsN T.F_drop_named fun _ _ _ _ _ _ us hl => match us, hl with | [_, _], _ => rfl
theorem Tx.F_craft_of (T : Tx w K mg) : FunD K "craft_of" "craft_of" (defArgs S_craft_of) (defBody S_craft_of) (defScope S_craft_of) [] [] (He.ga K "craft_of") (fdf K at_craft_of) := T.def_ 0 3 rfl rfl
theorem Tx.B_craft_of (T : Tx w K mg) : Binds K (fdf K at_craft_of) ["contents", "name"] [] := FunD.bindsN T.F_craft_of fun _ _ _ _ _ _ us hl => match us, hl with | [_, _], _ => rfl
theorem Tx.F_site_of (T : Tx w K mg) : FunD K "site_of" "site_of" (defArgs S_site_of) (defBody S_site_of) (defScope S_site_of) [] [] (He.ga K "site_of") (fdf K at_site_of) := T.def_ 0 4 rfl rfl
theorem Tx.B_site_of (T : Tx w K mg) : Binds K (fdf K at_site_of) ["contents", "name"] [] := FunD.bindsN T.F_site_of fun _ _ _ _ _ _ us hl => match us, hl with | [_, _], _ => rfl
theorem Tx.F_check (T : Tx w K mg) : FunD K "check" "check" (defArgs S_check) (defBody S_check) (defScope S_check) [] [] (He.ga K "check") (fdf K at_check) := T.def_ 0 5 rfl rfl
theorem Tx.B_check (T : Tx w K mg) : Binds K (fdf K at_check) ["good", "name"] [] := FunD.bindsN T.F_check fun _ _ _ _ _ _ us hl => match us, hl with | [_, _], _ => rfl
theorem Tx.F_is_name (T : Tx w K mg) : FunD K "is_name" "is_name" (defArgs S_is_name) (defBody S_is_name) (defScope S_is_name) [] [] (He.ga K "is_name") (fdf K at_is_name) := T.def_ 0 6 rfl rfl
theorem Tx.B_is_name (T : Tx w K mg) : Binds K (fdf K at_is_name) ["text"] [] := FunD.bindsN T.F_is_name fun _ _ _ _ _ _ us hl => match us, hl with | [_], _ => rfl
theorem Tx.F_is_tick (T : Tx w K mg) : FunD K "is_tick" "is_tick" (defArgs S_is_tick) (defBody S_is_tick) (defScope S_is_tick) [] [] (He.ga K "is_tick") (fdf K at_is_tick) := T.def_ 0 7 rfl rfl
theorem Tx.B_is_tick (T : Tx w K mg) : Binds K (fdf K at_is_tick) ["number"] [] := FunD.bindsN T.F_is_tick fun _ _ _ _ _ _ us hl => match us, hl with | [_], _ => rfl
theorem Tx.F_is_box (T : Tx w K mg) : FunD K "is_box" "is_box" (defArgs S_is_box) (defBody S_is_box) (defScope S_is_box) [] [] (He.ga K "is_box") (fdf K at_is_box) := T.def_ 0 8 rfl rfl
theorem Tx.B_is_box (T : Tx w K mg) : Binds K (fdf K at_is_box) ["box", "most"] [] := FunD.bindsN T.F_is_box fun _ _ _ _ _ _ us hl => match us, hl with | [_, _], _ => rfl
theorem Tx.F_Body_init (T : Tx w K mg) : FunD K "__init__" "Body.__init__" (defArgs S_Body_init) (defBody S_Body_init) (defScope S_Body_init) [] [] (He.ma K (He.ga K "Body") "__init__") (fdf K at_Body_init) := T.def_ 0 9 rfl rfl
theorem Tx.B_Body_init (T : Tx w K mg) : Binds K (fdf K at_Body_init) ["self", "mu", "oblateness", "turn"] [] := FunD.bindsN T.F_Body_init fun _ _ _ _ _ _ us hl => match us, hl with | [_, _, _, _], _ => rfl
theorem Tx.F_Burn_init (T : Tx w K mg) : FunD K "__init__" "Burn.__init__" (defArgs S_Burn_init) (defBody S_Burn_init) (defScope S_Burn_init) [] [] (He.ma K (He.ga K "Burn") "__init__") (fdf K at_Burn_init) := T.def_ 0 10 rfl rfl
theorem Tx.B_Burn_init (T : Tx w K mg) : Binds K (fdf K at_Burn_init) ["self", "begin", "end", "push"] [] := FunD.bindsN T.F_Burn_init fun _ _ _ _ _ _ us hl => match us, hl with | [_, _, _, _], _ => rfl
theorem Tx.F_Sighting_init (T : Tx w K mg) : FunD K "__init__" "Sighting.__init__" (defArgs S_Sighting_init) (defBody S_Sighting_init) (defScope S_Sighting_init) [] [] (He.ma K (He.ga K "Sighting") "__init__") (fdf K at_Sighting_init) := T.def_ 0 11 rfl rfl
theorem Tx.B_Sighting_init (T : Tx w K mg) : Binds K (fdf K at_Sighting_init) ["self", "at", "place"] [] := FunD.bindsN T.F_Sighting_init fun _ _ _ _ _ _ us hl => match us, hl with | [_, _, _], _ => rfl
theorem Tx.F_Craft_init (T : Tx w K mg) : FunD K "__init__" "Craft.__init__" (defArgs S_Craft_init) (defBody S_Craft_init) (defScope S_Craft_init) [V.ref (He.dflAt at_Craft_init 0 K), V.ref (He.dflAt at_Craft_init 1 K)] [] (He.ma K (He.ga K "Craft") "__init__") (fdf K at_Craft_init) := T.def_ 0 12 rfl rfl
theorem Tx.F_Site_init (T : Tx w K mg) : FunD K "__init__" "Site.__init__" (defArgs S_Site_init) (defBody S_Site_init) (defScope S_Site_init) [] [] (He.ma K (He.ga K "Site") "__init__") (fdf K at_Site_init) := T.def_ 0 13 rfl rfl
theorem Tx.B_Site_init (T : Tx w K mg) : Binds K (fdf K at_Site_init) ["self", "name", "place"] [] := FunD.bindsN T.F_Site_init fun _ _ _ _ _ _ us hl => match us, hl with | [_, _, _], _ => rfl
theorem Tx.F_Contents_init (T : Tx w K mg) : FunD K "__init__" "Contents.__init__" (defArgs S_Contents_init) (defBody S_Contents_init) (defScope S_Contents_init) [V.ref (He.dflAt at_Contents_init 0 K), V.ref (He.dflAt at_Contents_init 1 K)] [] (He.ma K (He.ga K "Contents") "__init__") (fdf K at_Contents_init) := T.def_ 0 14 rfl rfl
theorem Tx.F_same_craft (T : Tx w K mg) : FunD K "same_craft" "same_craft" (defArgs S_same_craft) (defBody S_same_craft) (defScope S_same_craft) [] [] (He.ga K "same_craft") (fdf K at_same_craft) := T.def_ 0 15 rfl rfl
theorem Tx.B_same_craft (T : Tx w K mg) : Binds K (fdf K at_same_craft) ["first", "second"] [] := FunD.bindsN T.F_same_craft fun _ _ _ _ _ _ us hl => match us, hl with | [_, _], _ => rfl
theorem Tx.F_craft_data (T : Tx w K mg) : FunD K "craft_data" "craft_data" (defArgs S_craft_data) (defBody S_craft_data) (defScope S_craft_data) [] [] (He.ga K "craft_data") (fdf K at_craft_data) := T.def_ 0 16 rfl rfl
theorem Tx.B_craft_data (T : Tx w K mg) : Binds K (fdf K at_craft_data) ["craft"] [] := FunD.bindsN T.F_craft_data fun _ _ _ _ _ _ us hl => match us, hl with | [_], _ => rfl
theorem Tx.F_body_data (T : Tx w K mg) : FunD K "body_data" "body_data" (defArgs S_body_data) (defBody S_body_data) (defScope S_body_data) [] [] (He.ga K "body_data") (fdf K at_body_data) := T.def_ 0 17 rfl rfl
theorem Tx.B_body_data (T : Tx w K mg) : Binds K (fdf K at_body_data) ["body"] [] := FunD.bindsN T.F_body_data fun _ _ _ _ _ _ us hl => match us, hl with | [_], _ => rfl
theorem Tx.F_entries (T : Tx w K mg) : FunD K "entries" "entries" (defArgs S_entries) (defBody S_entries) (defScope S_entries) [] [] (He.ga K "entries") (fdf K at_entries) := T.def_ 0 18 rfl rfl
theorem Tx.B_entries (T : Tx w K mg) : Binds K (fdf K at_entries) ["craft"] [] := FunD.bindsN T.F_entries fun _ _ _ _ _ _ us hl => match us, hl with | [_], _ => rfl
theorem Tx.F_first_difference (T : Tx w K mg) : FunD K "first_difference" "first_difference" (defArgs S_first_difference) (defBody S_first_difference) (defScope S_first_difference) [] [] (He.ga K "first_difference") (fdf K at_first_difference) := T.def_ 0 19 rfl rfl
theorem Tx.B_first_difference (T : Tx w K mg) : Binds K (fdf K at_first_difference) ["rows", "others"] [] := FunD.bindsN T.F_first_difference fun _ _ _ _ _ _ us hl => match us, hl with | [_, _], _ => rfl
theorem Tx.F_touched_at (T : Tx w K mg) : FunD K "touched_at" "touched_at" (defArgs S_touched_at) (defBody S_touched_at) (defScope S_touched_at) [] [] (He.ga K "touched_at") (fdf K at_touched_at) := T.def_ 1 0 rfl rfl
theorem Tx.B_touched_at (T : Tx w K mg) : Binds K (fdf K at_touched_at) ["before", "after"] [] := FunD.bindsN T.F_touched_at fun _ _ _ _ _ _ us hl => match us, hl with | [_, _], _ => rfl
theorem Tx.F_rules_differ (T : Tx w K mg) : FunD K "rules_differ" "rules_differ" (defArgs S_rules_differ) (defBody S_rules_differ) (defScope S_rules_differ) [] [] (He.ga K "rules_differ") (fdf K at_rules_differ) := T.def_ 1 1 rfl rfl
theorem Tx.B_rules_differ (T : Tx w K mg) : Binds K (fdf K at_rules_differ) ["before", "after"] [] := FunD.bindsN T.F_rules_differ fun _ _ _ _ _ _ us hl => match us, hl with | [_, _], _ => rfl
theorem Tx.F_touched_crafts (T : Tx w K mg) : FunD K "touched_crafts" "touched_crafts" (defArgs S_touched_crafts) (defBody S_touched_crafts) (defScope S_touched_crafts) [] [] (He.ga K "touched_crafts") (fdf K at_touched_crafts) := T.def_ 1 2 rfl rfl
theorem Tx.B_touched_crafts (T : Tx w K mg) : Binds K (fdf K at_touched_crafts) ["before", "after"] [] := FunD.bindsN T.F_touched_crafts fun _ _ _ _ _ _ us hl => match us, hl with | [_, _], _ => rfl
theorem Tx.F_touched_sites (T : Tx w K mg) : FunD K "touched_sites" "touched_sites" (defArgs S_touched_sites) (defBody S_touched_sites) (defScope S_touched_sites) [] [] (He.ga K "touched_sites") (fdf K at_touched_sites) := T.def_ 1 3 rfl rfl
theorem Tx.B_touched_sites (T : Tx w K mg) : Binds K (fdf K at_touched_sites) ["before", "after"] [] := FunD.bindsN T.F_touched_sites fun _ _ _ _ _ _ us hl => match us, hl with | [_, _], _ => rfl
theorem Tx.F_gone (T : Tx w K mg) : FunD K "gone" "gone" (defArgs S_gone) (defBody S_gone) (defScope S_gone) [] [] (He.ga K "gone") (fdf K at_gone) := T.def_ 1 4 rfl rfl
theorem Tx.B_gone (T : Tx w K mg) : Binds K (fdf K at_gone) ["rows", "others"] [] := FunD.bindsN T.F_gone fun _ _ _ _ _ _ us hl => match us, hl with | [_, _], _ => rfl
theorem Tx.F_differences (T : Tx w K mg) : FunD K "differences" "differences" (defArgs S_differences) (defBody S_differences) (defScope S_differences) [] [] (He.ga K "differences") (fdf K at_differences) := T.def_ 1 5 rfl rfl
theorem Tx.B_differences (T : Tx w K mg) : Binds K (fdf K at_differences) ["before", "after"] [] := FunD.bindsN T.F_differences fun _ _ _ _ _ _ us hl => match us, hl with | [_, _], _ => rfl
theorem Tx.F_with_crafts (T : Tx w K mg) : FunD K "with_crafts" "with_crafts" (defArgs S_with_crafts) (defBody S_with_crafts) (defScope S_with_crafts) [] [] (He.ga K "with_crafts") (fdf K at_with_crafts) := T.def_ 1 6 rfl rfl
theorem Tx.B_with_crafts (T : Tx w K mg) : Binds K (fdf K at_with_crafts) ["contents", "crafts"] [] := FunD.bindsN T.F_with_crafts fun _ _ _ _ _ _ us hl => match us, hl with | [_, _], _ => rfl
theorem Tx.F_with_sites (T : Tx w K mg) : FunD K "with_sites" "with_sites" (defArgs S_with_sites) (defBody S_with_sites) (defScope S_with_sites) [] [] (He.ga K "with_sites") (fdf K at_with_sites) := T.def_ 1 7 rfl rfl
theorem Tx.B_with_sites (T : Tx w K mg) : Binds K (fdf K at_with_sites) ["contents", "sites"] [] := FunD.bindsN T.F_with_sites fun _ _ _ _ _ _ us hl => match us, hl with | [_, _], _ => rfl
theorem Tx.F_changed_craft (T : Tx w K mg) : FunD K "changed_craft" "changed_craft" (defArgs S_changed_craft) (defBody S_changed_craft) (defScope S_changed_craft) [] [] (He.ga K "changed_craft") (fdf K at_changed_craft) := T.def_ 1 8 rfl rfl
theorem Tx.B_changed_craft (T : Tx w K mg) : Binds K (fdf K at_changed_craft) ["contents", "craft", "drift", "burns", "sightings"] [] := FunD.bindsN T.F_changed_craft fun _ _ _ _ _ _ us hl => match us, hl with | [_, _, _, _, _], _ => rfl
theorem Tx.F_add_craft (T : Tx w K mg) : FunD K "add_craft" "add_craft" (defArgs S_add_craft) (defBody S_add_craft) (defScope S_add_craft) [] [] (He.ga K "add_craft") (fdf K at_add_craft) := T.def_ 1 9 rfl rfl
theorem Tx.B_add_craft (T : Tx w K mg) : Binds K (fdf K at_add_craft) ["contents", "craft"] [] := FunD.bindsN T.F_add_craft fun _ _ _ _ _ _ us hl => match us, hl with | [_, _], _ => rfl
theorem Tx.F_drop_craft (T : Tx w K mg) : FunD K "drop_craft" "drop_craft" (defArgs S_drop_craft) (defBody S_drop_craft) (defScope S_drop_craft) [] [] (He.ga K "drop_craft") (fdf K at_drop_craft) := T.def_ 1 10 rfl rfl
theorem Tx.B_drop_craft (T : Tx w K mg) : Binds K (fdf K at_drop_craft) ["contents", "name"] [] := FunD.bindsN T.F_drop_craft fun _ _ _ _ _ _ us hl => match us, hl with | [_, _], _ => rfl
theorem Tx.F_set_drift (T : Tx w K mg) : FunD K "set_drift" "set_drift" (defArgs S_set_drift) (defBody S_set_drift) (defScope S_set_drift) [] [] (He.ga K "set_drift") (fdf K at_set_drift) := T.def_ 1 11 rfl rfl
theorem Tx.B_set_drift (T : Tx w K mg) : Binds K (fdf K at_set_drift) ["contents", "name", "drift"] [] := FunD.bindsN T.F_set_drift fun _ _ _ _ _ _ us hl => match us, hl with | [_, _, _], _ => rfl
theorem Tx.F_add_burn (T : Tx w K mg) : FunD K "add_burn" "add_burn" (defArgs S_add_burn) (defBody S_add_burn) (defScope S_add_burn) [] [] (He.ga K "add_burn") (fdf K at_add_burn) := T.def_ 1 12 rfl rfl
theorem Tx.B_add_burn (T : Tx w K mg) : Binds K (fdf K at_add_burn) ["contents", "name", "burn"] [] := FunD.bindsN T.F_add_burn fun _ _ _ _ _ _ us hl => match us, hl with | [_, _, _], _ => rfl
theorem Tx.F_drop_burn (T : Tx w K mg) : FunD K "drop_burn" "drop_burn" (defArgs S_drop_burn) (defBody S_drop_burn) (defScope S_drop_burn) [] [] (He.ga K "drop_burn") (fdf K at_drop_burn) := T.def_ 1 13 rfl rfl
theorem Tx.B_drop_burn (T : Tx w K mg) : Binds K (fdf K at_drop_burn) ["contents", "name", "begin"] [] := FunD.bindsN T.F_drop_burn fun _ _ _ _ _ _ us hl => match us, hl with | [_, _, _], _ => rfl
theorem Tx.F_add_sighting (T : Tx w K mg) : FunD K "add_sighting" "add_sighting" (defArgs S_add_sighting) (defBody S_add_sighting) (defScope S_add_sighting) [] [] (He.ga K "add_sighting") (fdf K at_add_sighting) := T.def_ 1 14 rfl rfl
theorem Tx.B_add_sighting (T : Tx w K mg) : Binds K (fdf K at_add_sighting) ["contents", "name", "sighting"] [] := FunD.bindsN T.F_add_sighting fun _ _ _ _ _ _ us hl => match us, hl with | [_, _, _], _ => rfl
theorem Tx.F_drop_sighting (T : Tx w K mg) : FunD K "drop_sighting" "drop_sighting" (defArgs S_drop_sighting) (defBody S_drop_sighting) (defScope S_drop_sighting) [] [] (He.ga K "drop_sighting") (fdf K at_drop_sighting) := T.def_ 1 15 rfl rfl
theorem Tx.B_drop_sighting (T : Tx w K mg) : Binds K (fdf K at_drop_sighting) ["contents", "name", "at"] [] := FunD.bindsN T.F_drop_sighting fun _ _ _ _ _ _ us hl => match us, hl with | [_, _, _], _ => rfl
theorem Tx.F_add_site (T : Tx w K mg) : FunD K "add_site" "add_site" (defArgs S_add_site) (defBody S_add_site) (defScope S_add_site) [] [] (He.ga K "add_site") (fdf K at_add_site) := T.def_ 1 16 rfl rfl
theorem Tx.B_add_site (T : Tx w K mg) : Binds K (fdf K at_add_site) ["contents", "site"] [] := FunD.bindsN T.F_add_site fun _ _ _ _ _ _ us hl => match us, hl with | [_, _], _ => rfl
theorem Tx.F_drop_site (T : Tx w K mg) : FunD K "drop_site" "drop_site" (defArgs S_drop_site) (defBody S_drop_site) (defScope S_drop_site) [] [] (He.ga K "drop_site") (fdf K at_drop_site) := T.def_ 1 17 rfl rfl
theorem Tx.B_drop_site (T : Tx w K mg) : Binds K (fdf K at_drop_site) ["contents", "name"] [] := FunD.bindsN T.F_drop_site fun _ _ _ _ _ _ us hl => match us, hl with | [_, _], _ => rfl
theorem Tx.F_set_stride (T : Tx w K mg) : FunD K "set_stride" "set_stride" (defArgs S_set_stride) (defBody S_set_stride) (defScope S_set_stride) [] [] (He.ga K "set_stride") (fdf K at_set_stride) := T.def_ 1 18 rfl rfl
theorem Tx.B_set_stride (T : Tx w K mg) : Binds K (fdf K at_set_stride) ["contents", "stride"] [] := FunD.bindsN T.F_set_stride fun _ _ _ _ _ _ us hl => match us, hl with | [_, _], _ => rfl
theorem Tx.F_set_fineness (T : Tx w K mg) : FunD K "set_fineness" "set_fineness" (defArgs S_set_fineness) (defBody S_set_fineness) (defScope S_set_fineness) [] [] (He.ga K "set_fineness") (fdf K at_set_fineness) := T.def_ 1 19 rfl rfl
theorem Tx.B_set_fineness (T : Tx w K mg) : Binds K (fdf K at_set_fineness) ["contents", "fineness"] [] := FunD.bindsN T.F_set_fineness fun _ _ _ _ _ _ us hl => match us, hl with | [_, _], _ => rfl
theorem Tx.F_apply_edit (T : Tx w K mg) : FunD K "apply_edit" "apply_edit" (defArgs S_apply_edit) (defBody S_apply_edit) (defScope S_apply_edit) [] [] (He.ga K "apply_edit") (fdf K at_apply_edit) := T.def_ 2 0 rfl rfl
theorem Tx.B_apply_edit (T : Tx w K mg) : Binds K (fdf K at_apply_edit) ["contents", "edit"] [] := FunD.bindsN T.F_apply_edit fun _ _ _ _ _ _ us hl => match us, hl with | [_, _], _ => rfl
theorem Tx.F_Catalogue_init (T : Tx w K mg) : FunD K "__init__" "Catalogue.__init__" (defArgs S_Catalogue_init) (defBody S_Catalogue_init) (defScope S_Catalogue_init) [] [] (He.ma K (He.ga K "Catalogue") "__init__") (fdf K at_Catalogue_init) := T.def_ 2 1 rfl rfl
theorem Tx.B_Catalogue_init (T : Tx w K mg) : Binds K (fdf K at_Catalogue_init) ["self", "contents"] [] := FunD.bindsN T.F_Catalogue_init fun _ _ _ _ _ _ us hl => match us, hl with | [_, _], _ => rfl
theorem Tx.F_Catalogue_edit (T : Tx w K mg) : FunD K "edit" "Catalogue.edit" (defArgs S_Catalogue_edit) (defBody S_Catalogue_edit) (defScope S_Catalogue_edit) [] [] (He.ma K (He.ga K "Catalogue") "edit") (fdf K at_Catalogue_edit) := T.def_ 2 2 rfl rfl
theorem Tx.B_Catalogue_edit (T : Tx w K mg) : Binds K (fdf K at_Catalogue_edit) ["self", "edit"] [] := FunD.bindsN T.F_Catalogue_edit fun _ _ _ _ _ _ us hl => match us, hl with | [_, _], _ => rfl
theorem Tx.F_Catalogue_undo (T : Tx w K mg) : FunD K "undo" "Catalogue.undo" (defArgs S_Catalogue_undo) (defBody S_Catalogue_undo) (defScope S_Catalogue_undo) [] [] (He.ma K (He.ga K "Catalogue") "undo") (fdf K at_Catalogue_undo) := T.def_ 2 3 rfl rfl
theorem Tx.B_Catalogue_undo (T : Tx w K mg) : Binds K (fdf K at_Catalogue_undo) ["self"] [] := FunD.bindsN T.F_Catalogue_undo fun _ _ _ _ _ _ us hl => match us, hl with | [_], _ => rfl
theorem Tx.F_write_line (T : Tx w K mg) : FunD K "write_line" "write_line" (defArgs S_write_line) (defBody S_write_line) (defScope S_write_line) [] [] (He.ga K "write_line") (fdf K at_write_line) := T.def_ 2 4 rfl rfl
theorem Tx.B_write_line (T : Tx w K mg) : Binds K (fdf K at_write_line) ["words"] [] := FunD.bindsN T.F_write_line fun _ _ _ _ _ _ us hl => match us, hl with | [_], _ => rfl
theorem Tx.F_box_numbers (T : Tx w K mg) : FunD K "box_numbers" "box_numbers" (defArgs S_box_numbers) (defBody S_box_numbers) (defScope S_box_numbers) [] [] (He.ga K "box_numbers") (fdf K at_box_numbers) := T.def_ 2 5 rfl rfl
theorem Tx.B_box_numbers (T : Tx w K mg) : Binds K (fdf K at_box_numbers) ["box"] [] := FunD.bindsN T.F_box_numbers fun _ _ _ _ _ _ us hl => match us, hl with | [_], _ => rfl
theorem Tx.F_texts (T : Tx w K mg) : FunD K "texts" "texts" (defArgs S_texts) (defBody S_texts) (defScope S_texts) [] [] (He.ga K "texts") (fdf K at_texts) := T.def_ 2 6 rfl rfl
theorem Tx.B_texts (T : Tx w K mg) : Binds K (fdf K at_texts) ["numbers"] [] := FunD.bindsN T.F_texts fun _ _ _ _ _ _ us hl => match us, hl with | [_], _ => rfl
theorem Tx.F_craft_lines (T : Tx w K mg) : FunD K "craft_lines" "craft_lines" (defArgs S_craft_lines) (defBody S_craft_lines) (defScope S_craft_lines) [] [] (He.ga K "craft_lines") (fdf K at_craft_lines) := T.def_ 2 7 rfl rfl
theorem Tx.B_craft_lines (T : Tx w K mg) : Binds K (fdf K at_craft_lines) ["craft"] [] := FunD.bindsN T.F_craft_lines fun _ _ _ _ _ _ us hl => match us, hl with | [_], _ => rfl
theorem Tx.F_head_lines (T : Tx w K mg) : FunD K "head_lines" "head_lines" (defArgs S_head_lines) (defBody S_head_lines) (defScope S_head_lines) [] [] (He.ga K "head_lines") (fdf K at_head_lines) := T.def_ 2 8 rfl rfl
theorem Tx.B_head_lines (T : Tx w K mg) : Binds K (fdf K at_head_lines) ["contents"] [] := FunD.bindsN T.F_head_lines fun _ _ _ _ _ _ us hl => match us, hl with | [_], _ => rfl
theorem Tx.F_saved_text (T : Tx w K mg) : FunD K "saved_text" "saved_text" (defArgs S_saved_text) (defBody S_saved_text) (defScope S_saved_text) [] [] (He.ga K "saved_text") (fdf K at_saved_text) := T.def_ 2 9 rfl rfl
theorem Tx.B_saved_text (T : Tx w K mg) : Binds K (fdf K at_saved_text) ["contents"] [] := FunD.bindsN T.F_saved_text fun _ _ _ _ _ _ us hl => match us, hl with | [_], _ => rfl
theorem Tx.F_add (T : Tx w K mg) : FunD K "add" "add" (defArgs S_add) (defBody S_add) (defScope S_add) [] [] (He.ga K "add") (fdf K at_add) := T.def_ 2 10 rfl rfl
theorem Tx.B_add (T : Tx w K mg) : Binds K (fdf K at_add) ["a", "b"] [] := FunD.bindsN T.F_add fun _ _ _ _ _ _ us hl => match us, hl with | [_, _], _ => rfl
theorem Tx.F_subtract (T : Tx w K mg) : FunD K "subtract" "subtract" (defArgs S_subtract) (defBody S_subtract) (defScope S_subtract) [] [] (He.ga K "subtract") (fdf K at_subtract) := T.def_ 2 11 rfl rfl
theorem Tx.B_subtract (T : Tx w K mg) : Binds K (fdf K at_subtract) ["a", "b"] [] := FunD.bindsN T.F_subtract fun _ _ _ _ _ _ us hl => match us, hl with | [_, _], _ => rfl
theorem Tx.F_scaled (T : Tx w K mg) : FunD K "scaled" "scaled" (defArgs S_scaled) (defBody S_scaled) (defScope S_scaled) [] [] (He.ga K "scaled") (fdf K at_scaled) := T.def_ 2 12 rfl rfl
theorem Tx.B_scaled (T : Tx w K mg) : Binds K (fdf K at_scaled) ["a", "n"] [] := FunD.bindsN T.F_scaled fun _ _ _ _ _ _ us hl => match us, hl with | [_, _], _ => rfl
theorem Tx.F_multiply (T : Tx w K mg) : FunD K "multiply" "multiply" (defArgs S_multiply) (defBody S_multiply) (defScope S_multiply) [] [] (He.ga K "multiply") (fdf K at_multiply) := T.def_ 2 13 rfl rfl
theorem Tx.B_multiply (T : Tx w K mg) : Binds K (fdf K at_multiply) ["a", "b"] [] := FunD.bindsN T.F_multiply fun _ _ _ _ _ _ us hl => match us, hl with | [_, _], _ => rfl
theorem Tx.F_square (T : Tx w K mg) : FunD K "square" "square" (defArgs S_square) (defBody S_square) (defScope S_square) [] [] (He.ga K "square") (fdf K at_square) := T.def_ 2 14 rfl rfl
theorem Tx.B_square (T : Tx w K mg) : Binds K (fdf K at_square) ["a"] [] := FunD.bindsN T.F_square fun _ _ _ _ _ _ us hl => match us, hl with | [_], _ => rfl
theorem Tx.F_quotient (T : Tx w K mg) : FunD K "quotient" "quotient" (defArgs S_quotient) (defBody S_quotient) (defScope S_quotient) [] [] (He.ga K "quotient") (fdf K at_quotient) := T.def_ 2 15 rfl rfl
theorem Tx.B_quotient (T : Tx w K mg) : Binds K (fdf K at_quotient) ["a", "d"] [] := FunD.bindsN T.F_quotient fun _ _ _ _ _ _ us hl => match us, hl with | [_, _], _ => rfl
theorem Tx.F_root (T : Tx w K mg) : FunD K "root" "root" (defArgs S_root) (defBody S_root) (defScope S_root) [] [] (He.ga K "root") (fdf K at_root) := T.def_ 2 16 rfl rfl
theorem Tx.B_root (T : Tx w K mg) : Binds K (fdf K at_root) ["a"] [] := FunD.bindsN T.F_root fun _ _ _ _ _ _ us hl => match us, hl with | [_], _ => rfl
theorem Tx.F_meet (T : Tx w K mg) : FunD K "meet" "meet" (defArgs S_meet) (defBody S_meet) (defScope S_meet) [] [] (He.ga K "meet") (fdf K at_meet) := T.def_ 2 17 rfl rfl
theorem Tx.B_meet (T : Tx w K mg) : Binds K (fdf K at_meet) ["a", "b"] [] := FunD.bindsN T.F_meet fun _ _ _ _ _ _ us hl => match us, hl with | [_, _], _ => rfl
theorem Tx.F_hull (T : Tx w K mg) : FunD K "hull" "hull" (defArgs S_hull) (defBody S_hull) (defScope S_hull) [] [] (He.ga K "hull") (fdf K at_hull) := T.def_ 2 18 rfl rfl
theorem Tx.B_hull (T : Tx w K mg) : Binds K (fdf K at_hull) ["a", "b"] [] := FunD.bindsN T.F_hull fun _ _ _ _ _ _ us hl => match us, hl with | [_, _], _ => rfl
theorem Tx.F_widened (T : Tx w K mg) : FunD K "widened" "widened" (defArgs S_widened) (defBody S_widened) (defScope S_widened) [] [] (He.ga K "widened") (fdf K at_widened) := T.def_ 2 19 rfl rfl
theorem Tx.B_widened (T : Tx w K mg) : Binds K (fdf K at_widened) ["a", "w"] [] := FunD.bindsN T.F_widened fun _ _ _ _ _ _ us hl => match us, hl with | [_, _], _ => rfl
theorem Tx.F_middle (T : Tx w K mg) : FunD K "middle" "middle" (defArgs S_middle) (defBody S_middle) (defScope S_middle) [] [] (He.ga K "middle") (fdf K at_middle) := T.def_ 3 0 rfl rfl
theorem Tx.B_middle (T : Tx w K mg) : Binds K (fdf K at_middle) ["a"] [] := FunD.bindsN T.F_middle fun _ _ _ _ _ _ us hl => match us, hl with | [_], _ => rfl
theorem Tx.F_width (T : Tx w K mg) : FunD K "width" "width" (defArgs S_width) (defBody S_width) (defScope S_width) [] [] (He.ga K "width") (fdf K at_width) := T.def_ 3 1 rfl rfl
theorem Tx.B_width (T : Tx w K mg) : Binds K (fdf K at_width) ["a"] [] := FunD.bindsN T.F_width fun _ _ _ _ _ _ us hl => match us, hl with | [_], _ => rfl
theorem Tx.F_size (T : Tx w K mg) : FunD K "size" "size" (defArgs S_size) (defBody S_size) (defScope S_size) [] [] (He.ga K "size") (fdf K at_size) := T.def_ 3 2 rfl rfl
theorem Tx.B_size (T : Tx w K mg) : Binds K (fdf K at_size) ["a"] [] := FunD.bindsN T.F_size fun _ _ _ _ _ _ us hl => match us, hl with | [_], _ => rfl
theorem Tx.F_box_add (T : Tx w K mg) : FunD K "box_add" "box_add" (defArgs S_box_add) (defBody S_box_add) (defScope S_box_add) [] [] (He.ga K "box_add") (fdf K at_box_add) := T.def_ 3 3 rfl rfl
theorem Tx.B_box_add (T : Tx w K mg) : Binds K (fdf K at_box_add) ["a", "b"] [] := FunD.bindsN T.F_box_add fun _ _ _ _ _ _ us hl => match us, hl with | [_, _], _ => rfl
theorem Tx.F_box_hull (T : Tx w K mg) : FunD K "box_hull" "box_hull" (defArgs S_box_hull) (defBody S_box_hull) (defScope S_box_hull) [] [] (He.ga K "box_hull") (fdf K at_box_hull) := T.def_ 3 4 rfl rfl
theorem Tx.B_box_hull (T : Tx w K mg) : Binds K (fdf K at_box_hull) ["a", "b"] [] := FunD.bindsN T.F_box_hull fun _ _ _ _ _ _ us hl => match us, hl with | [_, _], _ => rfl
theorem Tx.F_box_widened (T : Tx w K mg) : FunD K "box_widened" "box_widened" (defArgs S_box_widened) (defBody S_box_widened) (defScope S_box_widened) [] [] (He.ga K "box_widened") (fdf K at_box_widened) := T.def_ 3 5 rfl rfl
theorem Tx.B_box_widened (T : Tx w K mg) : Binds K (fdf K at_box_widened) ["a", "w"] [] := FunD.bindsN T.F_box_widened fun _ _ _ _ _ _ us hl => match us, hl with | [_, _], _ => rfl
theorem Tx.F_box_meet (T : Tx w K mg) : FunD K "box_meet" "box_meet" (defArgs S_box_meet) (defBody S_box_meet) (defScope S_box_meet) [] [] (He.ga K "box_meet") (fdf K at_box_meet) := T.def_ 3 6 rfl rfl
theorem Tx.B_box_meet (T : Tx w K mg) : Binds K (fdf K at_box_meet) ["a", "b"] [] := FunD.bindsN T.F_box_meet fun _ _ _ _ _ _ us hl => match us, hl with | [_, _], _ => rfl
theorem Tx.F_square_length (T : Tx w K mg) : FunD K "square_length" "square_length" (defArgs S_square_length) (defBody S_square_length) (defScope S_square_length) [] [] (He.ga K "square_length") (fdf K at_square_length) := T.def_ 3 7 rfl rfl
theorem Tx.B_square_length (T : Tx w K mg) : Binds K (fdf K at_square_length) ["box"] [] := FunD.bindsN T.F_square_length fun _ _ _ _ _ _ us hl => match us, hl with | [_], _ => rfl
theorem Tx.F_box_size (T : Tx w K mg) : FunD K "box_size" "box_size" (defArgs S_box_size) (defBody S_box_size) (defScope S_box_size) [] [] (He.ga K "box_size") (fdf K at_box_size) := T.def_ 3 8 rfl rfl
theorem Tx.B_box_size (T : Tx w K mg) : Binds K (fdf K at_box_size) ["box"] [] := FunD.bindsN T.F_box_size fun _ _ _ _ _ _ us hl => match us, hl with | [_], _ => rfl
theorem Tx.F_pull_over (T : Tx w K mg) : FunD K "pull_over" "pull_over" (defArgs S_pull_over) (defBody S_pull_over) (defScope S_pull_over) [] [] (He.ga K "pull_over") (fdf K at_pull_over) := T.def_ 3 9 rfl rfl
theorem Tx.B_pull_over (T : Tx w K mg) : Binds K (fdf K at_pull_over) ["body", "box"] [] := FunD.bindsN T.F_pull_over fun _ _ _ _ _ _ us hl => match us, hl with | [_, _], _ => rfl
theorem Tx.F_push_at (T : Tx w K mg) : FunD K "push_at" "push_at" (defArgs S_push_at) (defBody S_push_at) (defScope S_push_at) [] [] (He.ga K "push_at") (fdf K at_push_at) := T.def_ 3 10 rfl rfl
theorem Tx.B_push_at (T : Tx w K mg) : Binds K (fdf K at_push_at) ["craft", "at"] [] := FunD.bindsN T.F_push_at fun _ _ _ _ _ _ us hl => match us, hl with | [_, _], _ => rfl
theorem Tx.F_State_init (T : Tx w K mg) : FunD K "__init__" "State.__init__" (defArgs S_State_init) (defBody S_State_init) (defScope S_State_init) [] [] (He.ma K (He.ga K "State") "__init__") (fdf K at_State_init) := T.def_ 3 11 rfl rfl
theorem Tx.B_State_init (T : Tx w K mg) : Binds K (fdf K at_State_init) ["self", "place", "speed"] [] := FunD.bindsN T.F_State_init fun _ _ _ _ _ _ us hl => match us, hl with | [_, _, _], _ => rfl
theorem Tx.F_put (T : Tx w K mg) : FunD K "put" "put" (defArgs S_put) (defBody S_put) (defScope S_put) [] [] (He.ga K "put") (fdf K at_put) := T.def_ 3 12 rfl rfl
theorem Tx.B_put (T : Tx w K mg) : Binds K (fdf K at_put) ["box", "k", "interval"] [] := FunD.bindsN T.F_put fun _ _ _ _ _ _ us hl => match us, hl with | [_, _, _], _ => rfl
theorem Tx.F_split (T : Tx w K mg) : FunD K "split" "split" (defArgs S_split) (defBody S_split) (defScope S_split) [] [] (He.ga K "split") (fdf K at_split) := T.def_ 3 13 rfl rfl
theorem Tx.B_split (T : Tx w K mg) : Binds K (fdf K at_split) ["state"] [] := FunD.bindsN T.F_split fun _ _ _ _ _ _ us hl => match us, hl with | [_], _ => rfl
theorem Tx.F_parts_of (T : Tx w K mg) : FunD K "parts_of" "parts_of" (defArgs S_parts_of) (defBody S_parts_of) (defScope S_parts_of) [] [] (He.ga K "parts_of") (fdf K at_parts_of) := T.def_ 3 14 rfl rfl
theorem Tx.B_parts_of (T : Tx w K mg) : Binds K (fdf K at_parts_of) ["state", "fineness"] [] := FunD.bindsN T.F_parts_of fun _ _ _ _ _ _ us hl => match us, hl with | [_, _], _ => rfl
theorem Tx.F_step (T : Tx w K mg) : FunD K "step" "step" (defArgs S_step) (defBody S_step) (defScope S_step) [] [] (He.ga K "step") (fdf K at_step) := T.def_ 3 15 rfl rfl
theorem Tx.B_step (T : Tx w K mg) : Binds K (fdf K at_step) ["body", "state", "push", "drift"] [] := FunD.bindsN T.F_step fun _ _ _ _ _ _ us hl => match us, hl with | [_, _, _, _], _ => rfl
theorem Tx.F_cut (T : Tx w K mg) : FunD K "cut" "cut" (defArgs S_cut) (defBody S_cut) (defScope S_cut) [] [] (He.ga K "cut") (fdf K at_cut) := T.def_ 3 16 rfl rfl
theorem Tx.B_cut (T : Tx w K mg) : Binds K (fdf K at_cut) ["state", "box"] [] := FunD.bindsN T.F_cut fun _ _ _ _ _ _ us hl => match us, hl with | [_, _], _ => rfl
theorem Tx.F_sighting_at (T : Tx w K mg) : FunD K "sighting_at" "sighting_at" (defArgs S_sighting_at) (defBody S_sighting_at) (defScope S_sighting_at) [] [] (He.ga K "sighting_at") (fdf K at_sighting_at) := T.def_ 3 17 rfl rfl
theorem Tx.B_sighting_at (T : Tx w K mg) : Binds K (fdf K at_sighting_at) ["craft", "at"] [] := FunD.bindsN T.F_sighting_at fun _ _ _ _ _ _ us hl => match us, hl with | [_, _], _ => rfl
theorem Tx.F_cut_all (T : Tx w K mg) : FunD K "cut_all" "cut_all" (defArgs S_cut_all) (defBody S_cut_all) (defScope S_cut_all) [] [] (He.ga K "cut_all") (fdf K at_cut_all) := T.def_ 3 18 rfl rfl
theorem Tx.B_cut_all (T : Tx w K mg) : Binds K (fdf K at_cut_all) ["states", "box"] [] := FunD.bindsN T.F_cut_all fun _ _ _ _ _ _ us hl => match us, hl with | [_, _], _ => rfl
theorem Tx.F_first_states (T : Tx w K mg) : FunD K "first_states" "first_states" (defArgs S_first_states) (defBody S_first_states) (defScope S_first_states) [] [] (He.ga K "first_states") (fdf K at_first_states) := T.def_ 3 19 rfl rfl
theorem Tx.B_first_states (T : Tx w K mg) : Binds K (fdf K at_first_states) ["fineness", "craft"] [] := FunD.bindsN T.F_first_states fun _ _ _ _ _ _ us hl => match us, hl with | [_, _], _ => rfl
theorem Tx.F_Piece_init (T : Tx w K mg) : FunD K "__init__" "Piece.__init__" (defArgs S_Piece_init) (defBody S_Piece_init) (defScope S_Piece_init) [] [] (He.ma K (He.ga K "Piece") "__init__") (fdf K at_Piece_init) := T.def_ 4 0 rfl rfl
theorem Tx.B_Piece_init (T : Tx w K mg) : Binds K (fdf K at_Piece_init) ["self", "begin", "end", "parts"] [] := FunD.bindsN T.F_Piece_init fun _ _ _ _ _ _ us hl => match us, hl with | [_, _, _, _], _ => rfl
theorem Tx.F_Course_init (T : Tx w K mg) : FunD K "__init__" "Course.__init__" (defArgs S_Course_init) (defBody S_Course_init) (defScope S_Course_init) [] [] (He.ma K (He.ga K "Course") "__init__") (fdf K at_Course_init) := T.def_ 4 1 rfl rfl
theorem Tx.B_Course_init (T : Tx w K mg) : Binds K (fdf K at_Course_init) ["self", "pieces", "ending"] [] := FunD.bindsN T.F_Course_init fun _ _ _ _ _ _ us hl => match us, hl with | [_, _, _], _ => rfl
theorem Tx.F_next_rows (T : Tx w K mg) : FunD K "next_rows" "next_rows" (defArgs S_next_rows) (defBody S_next_rows) (defScope S_next_rows) [] [] (He.ga K "next_rows") (fdf K at_next_rows) := T.def_ 4 2 rfl rfl
theorem Tx.B_next_rows (T : Tx w K mg) : Binds K (fdf K at_next_rows) ["body", "craft", "at", "rows"] [] := FunD.bindsN T.F_next_rows fun _ _ _ _ _ _ us hl => match us, hl with | [_, _, _, _], _ => rfl
theorem Tx.F_course (T : Tx w K mg) : FunD K "course" "course" (defArgs S_course) (defBody S_course) (defScope S_course) [] [] (He.ga K "course") (fdf K at_course) := T.def_ 4 3 rfl rfl
theorem Tx.B_course (T : Tx w K mg) : Binds K (fdf K at_course) ["contents", "craft", "until"] [] := FunD.bindsN T.F_course fun _ _ _ _ _ _ us hl => match us, hl with | [_, _, _], _ => rfl
theorem Tx.F_law_row (T : Tx w K mg) : FunD K "_law_row" "_law_row" (defArgs S_law_row) (defBody S_law_row) (defScope S_law_row) [] [] (He.ga K "_law_row") (fdf K at_law_row) := T.def_ 4 4 rfl rfl
theorem Tx.B_law_row (T : Tx w K mg) : Binds K (fdf K at_law_row) ["_law_script", "_law_k"] [] := FunD.bindsN T.F_law_row fun _ _ _ _ _ _ us hl => match us, hl with | [_, _], _ => rfl
theorem Tx.F_law_spread (T : Tx w K mg) : FunD K "_law_spread" "_law_spread" (defArgs S_law_spread) (defBody S_law_spread) (defScope S_law_spread) [] [] (He.ga K "_law_spread") (fdf K at_law_spread) := T.def_ 4 5 rfl rfl
theorem Tx.B_law_spread (T : Tx w K mg) : Binds K (fdf K at_law_spread) ["_law_row_here", "_law_places", "_law_span"] [] := FunD.bindsN T.F_law_spread fun _ _ _ _ _ _ us hl => match us, hl with | [_, _, _], _ => rfl
theorem Tx.F_law_box (T : Tx w K mg) : FunD K "_law_box" "_law_box" (defArgs S_law_box) (defBody S_law_box) (defScope S_law_box) [] [] (He.ga K "_law_box") (fdf K at_law_box) := T.def_ 4 6 rfl rfl
theorem Tx.B_law_box (T : Tx w K mg) : Binds K (fdf K at_law_box) ["_law_row_here", "_law_span", "_law_wide_here"] [] := FunD.bindsN T.F_law_box fun _ _ _ _ _ _ us hl => match us, hl with | [_, _, _], _ => rfl
theorem Tx.F_law_craft (T : Tx w K mg) : FunD K "_law_craft" "_law_craft" (defArgs S_law_craft) (defBody S_law_craft) (defScope S_law_craft) [] [] (He.ga K "_law_craft") (fdf K at_law_craft) := T.def_ 4 7 rfl rfl
theorem Tx.B_law_craft (T : Tx w K mg) : Binds K (fdf K at_law_craft) ["_law_name", "_law_start", "_law_place", "_law_speed", "_law_drift", "_law_burns", "_law_seen"] [] := FunD.bindsN T.F_law_craft fun _ _ _ _ _ _ us hl => match us, hl with | [_, _, _, _, _, _, _], _ => rfl
theorem Tx.F_law_world (T : Tx w K mg) : FunD K "_law_world" "_law_world" (defArgs S_law_world) (defBody S_law_world) (defScope S_law_world) [] [] (He.ga K "_law_world") (fdf K at_law_world) := T.def_ 4 8 rfl rfl
theorem Tx.B_law_world (T : Tx w K mg) : Binds K (fdf K at_law_world) ["_law_script"] [] := FunD.bindsN T.F_law_world fun _ _ _ _ _ _ us hl => match us, hl with | [_], _ => rfl
theorem Tx.F_law_turn (T : Tx w K mg) : FunD K "_law_turn" "_law_turn" (defArgs S_law_turn) (defBody S_law_turn) (defScope S_law_turn) [] [] (He.ga K "_law_turn") (fdf K at_law_turn) := T.def_ 4 9 rfl rfl
theorem Tx.B_law_turn (T : Tx w K mg) : Binds K (fdf K at_law_turn) ["_law_row_here"] [] := FunD.bindsN T.F_law_turn fun _ _ _ _ _ _ us hl => match us, hl with | [_], _ => rfl
theorem Tx.F_law_data (T : Tx w K mg) : FunD K "_law_data" "_law_data" (defArgs S_law_data) (defBody S_law_data) (defScope S_law_data) [] [] (He.ga K "_law_data") (fdf K at_law_data) := T.def_ 4 10 rfl rfl
theorem Tx.B_law_data (T : Tx w K mg) : Binds K (fdf K at_law_data) ["_law_script", "_law_k", "_law_name"] [] := FunD.bindsN T.F_law_data fun _ _ _ _ _ _ us hl => match us, hl with | [_, _, _], _ => rfl
theorem Tx.F_law_made (T : Tx w K mg) : FunD K "_law_made" "_law_made" (defArgs S_law_made) (defBody S_law_made) (defScope S_law_made) [] [] (He.ga K "_law_made") (fdf K at_law_made) := T.def_ 4 11 rfl rfl
theorem Tx.B_law_made (T : Tx w K mg) : Binds K (fdf K at_law_made) ["_law_data_here", "_law_seen"] [] := FunD.bindsN T.F_law_made fun _ _ _ _ _ _ us hl => match us, hl with | [_, _], _ => rfl
theorem Tx.F_law_wide (T : Tx w K mg) : FunD K "_law_wide" "_law_wide" (defArgs S_law_wide) (defBody S_law_wide) (defScope S_law_wide) [] [] (He.ga K "_law_wide") (fdf K at_law_wide) := T.def_ 4 12 rfl rfl
theorem Tx.B_law_wide (T : Tx w K mg) : Binds K (fdf K at_law_wide) ["_law_row_here"] [] := FunD.bindsN T.F_law_wide fun _ _ _ _ _ _ us hl => match us, hl with | [_], _ => rfl
theorem Tx.F_law_drawn_edit (T : Tx w K mg) : FunD K "_law_drawn_edit" "_law_drawn_edit" (defArgs S_law_drawn_edit) (defBody S_law_drawn_edit) (defScope S_law_drawn_edit) [] [] (He.ga K "_law_drawn_edit") (fdf K at_law_drawn_edit) := T.def_ 4 13 rfl rfl
theorem Tx.B_law_drawn_edit (T : Tx w K mg) : Binds K (fdf K at_law_drawn_edit) ["_law_script", "_law_k", "_law_names"] [] := FunD.bindsN T.F_law_drawn_edit fun _ _ _ _ _ _ us hl => match us, hl with | [_, _, _], _ => rfl
theorem Tx.F_law_pieces (T : Tx w K mg) : FunD K "_law_pieces" "_law_pieces" (defArgs S_law_pieces) (defBody S_law_pieces) (defScope S_law_pieces) [] [] (He.ga K "_law_pieces") (fdf K at_law_pieces) := T.def_ 4 14 rfl rfl
theorem Tx.B_law_pieces (T : Tx w K mg) : Binds K (fdf K at_law_pieces) ["_law_contents", "_law_craft_here"] [] := FunD.bindsN T.F_law_pieces fun _ _ _ _ _ _ us hl => match us, hl with | [_, _], _ => rfl
theorem Tx.F_law (T : Tx w K mg) : FunD K "law" "law" (defArgs S_law) (defBody S_law) (defScope S_law) [] [] (He.ga K "law") (fdf K at_law) := T.def_ 4 15 rfl rfl
theorem Tx.B_law (T : Tx w K mg) : Binds K (fdf K at_law) ["_law_script"] [] := FunD.bindsN T.F_law fun _ _ _ _ _ _ us hl => match us, hl with | [_], _ => rfl
theorem Tx.g_isqrt (T : Tx w K mg) : mg "isqrt" = some (.builtin "math.isqrt") := by
  obtain ⟨h, X, G⟩ := T.at_
  exact PySem.W.mg_of X G (He.eqO_ok (He.ba T.ex).1)
theorem Tx.r_FACTORS (T : Tx w K mg) (H : Hp) : (PT K [PI 1, PI 1, PI 3]).holds H (.ref (He.ga K "FACTORS")) := by
  have e := T.ex
  unfold exB at e
  simp only [Bool.and_eq_true] at e
  exact ⟨_, _, rfl, tupA_ok e.2.1 H, rfl, rfl, rfl, trivial⟩
theorem Tx.r_NOTHING (T : Tx w K mg) (H : Hp) : (PT K [PT K [PI 0, PI 0], PT K [PI 0, PI 0], PT K [PI 0, PI 0]]).holds H (.ref (He.ga K "NOTHING")) := by
  have e := T.ex
  unfold exB at e
  simp only [Bool.and_eq_true] at e
  obtain ⟨_, _, e0, e1, e2, e3, _⟩ := e
  exact ⟨_, _, rfl, tupA_ok e0 H, ⟨_, _, rfl, tupA_ok e1 H, rfl, rfl, trivial⟩, ⟨_, _, rfl, tupA_ok e2 H, rfl, rfl, trivial⟩, ⟨_, _, rfl, tupA_ok e3 H, rfl, rfl, trivial⟩, trivial⟩
theorem Tx.dfl (T : Tx w K mg) (H : Hp) : (PT K []).holds H (.ref (He.dflAt at_Craft_init 0 K)) ∧ (PT K []).holds H (.ref (He.dflAt at_Craft_init 1 K)) ∧ (PT K []).holds H (.ref (He.dflAt at_Contents_init 0 K)) ∧ (PT K []).holds H (.ref (He.dflAt at_Contents_init 1 K)) := by
  have e := T.ex
  unfold exB at e
  simp only [Bool.and_eq_true] at e
  obtain ⟨_, _, _, _, _, _, e1, e2, e3, e4, _⟩ := e
  exact ⟨⟨_, _, rfl, tupA_ok e1 H, trivial⟩, ⟨_, _, rfl, tupA_ok e2 H, trivial⟩, ⟨_, _, rfl, tupA_ok e3 H, trivial⟩, ⟨_, _, rfl, tupA_ok e4 H, trivial⟩⟩
end
end K9
set_option Elab.async false
set_option linter.all false
set_option maxRecDepth 100000
set_option maxHeartbeats 4000000
/-! K9X: NoSuchCraft, NoSuchSite: an __init__ with super() under ValueError. -/
namespace K9
open PySem PySem.Spec PyProof.Rows L2
/-! ### what is looked at -/
abbrev IxW : Type := Option (Str × Str × Arguments × FuncBody × Scope × Addr × List Str × Addr)
def ixA (K : PySem.W.Frag) (x : Str) : Addr := He.ma K (He.ga K x) "__init__"
def ixW (K : PySem.W.Frag) (x : Str) : IxW := match K.lookup (ixA K x) with
  | some ⟨_, _, .func fd, _⟩ => some (fd.name, fd.qualname, fd.params, fd.body, fd.scope, fd.globals, fd.closure.map (·.1), fd.builtins)
  | _ => none
def ixV (q : Str) (S : Stmt) : IxW := some ("__init__", q, defArgs S, .stmts (defBody S), defScope S, mainGlobals, ["__class__"], builtinsNs)
def oexB (K : PySem.W.Frag) (C : Addr) : Bool := match K.lookup C with
  | some ⟨.type "type", _, .cls cd, sl⟩ => (match cd.mro, sl.toList with
    | .ref C' :: bm, [_, _, _, _, some (.builtin n), _] => decide (C' = C) && (decide (n = "ValueError.__new__") && (!cd.hasDel && (cd.hasDict && PySem.HandSPX.refsVE bm)))
    | _, _ => false)
  | _ => false
def celB (K : PySem.W.Frag) (C cc : Addr) : Bool := match K.lookup cc with
  | some ⟨_, _, .cell (some (.ref D)), _⟩ => decide (D = C)
  | _ => false
def filB (P : Program) (K : PySem.W.Frag) (cda : Addr) : Bool := match K.lookup cda with
  | some ⟨_, _, .fields vs, _⟩ => (match (vs[2]? : Option Value) with
    | some (.str file _) => (P.main.file : Str) == file
    | _ => false)
  | _ => false
def cloB (P : Program) (K : PySem.W.Frag) (C f : Addr) : Bool := match K.lookup f with
  | some ⟨_, _, .func fd, _⟩ => (match fd.closure, fd.code, fd.defaults with
    | [(_, cc)], .ref cda, .none => celB K C cc && (filB P K cda && PySem.W.codeIn K (.ref cda) fd.qualname)
    | _, _, _ => false)
  | _ => false
def xnB (P : Program) (K : PySem.W.Frag) (x : Str) : Bool :=
  oexB K (He.ga K x) && (cloB P K (He.ga K x) (ixA K x) && (He.eqO (PySem.W.findIn K (.ref (He.ga K x)) "__init__") (some (some (.ref (ixA K x)))) && (decide (PySem.W.typeIn K (.ref (ixA K x)) = some (.type "function")) &&
    (He.eqO (PySem.W.findIn K (.ref (He.ga K x)) "name") (some none) && (He.eqO (PySem.W.findIn K (.ref (He.ga K x)) "__setattr__") (some (some (.builtin "object.__setattr__"))) && (decide (PySem.W.subIn K (.ref (He.ga K x)) (.type "BaseException") = some true) &&
    (decide (PySem.W.typeIn K (.ref (He.ga K x)) = some (.type "type")) && (PySem.W.keepIn K (.ref (He.ga K x)) && (He.eqO (PySem.W.ks_superIn K (He.ga K x) (He.ga K x) "__init__") (some (some (.builtin "ValueError.__init__"))) &&
    (decide (PySem.W.subIn K (.ref (He.ga K x)) (.type "ValueError") = some true) && (decide (PySem.W.mroIn K (He.ga K x) (.ref (He.ga K x)) = some true) && He.eqO (PySem.W.nsIn K cStatics "thirdparty.any") (some none))))))))))))
/-! ### what it tells -/
structure XnF (P : Program) (K : PySem.W.Frag) (C f cc : Addr) (F : NdefX.NF) : Prop where
  T : OexC K C
  iC : PySem.W.findIn K (.ref C) "__init__" = some (some (.ref f))
  tI : PySem.W.typeIn K (.ref f) = some (.type "function")
  nm : PySem.W.findIn K (.ref C) "name" = some none
  fn : ∃ (oc : Value) (od : Option Addr) (kV doc pm : Value) (an : Option Addr) (ct : Value) (osl : Array (Option Value)), K.lookup f = some ⟨oc, od, .func (PySem.W.fnX F.name F.qual F.params F.body F.scope F.cl .none kV doc pm an (.ref F.c) ct), osl⟩
  cd : PySem.W.codeIn K (.ref F.c) F.qual = true
  cl : F.cl = [(("__class__" : Str), cc)]
  co : filB P K F.c = true
  ce : celB K C cc = true
  su : PySem.W.ks_superIn K C C "__init__" = some (some (.builtin "ValueError.__init__"))
  sb : PySem.W.subIn K (.ref C) (.type "ValueError") = some true
  mr : PySem.W.mroIn K C (.ref C) = some true
  tp : PySem.W.nsIn K cStatics "thirdparty.any" = some none
theorem oexB_ok {K : PySem.W.Frag} {C : Addr} (h : oexB K C = true) : ∃ nm q N bs bm sn sub ab col dd k0 k1 k2 k3 k5, K.lookup C = some (excClassObj nm q C N bs bm true sn sub ab col dd k0 k1 k2 k3 k5 "ValueError.__new__") ∧ PySem.HandSPX.refsVE bm = true := by
  unfold oexB at h
  split at h
  · rename_i dd cd sl ho
    split at h
    · rename_i C' bm k0 k1 k2 k3 n k5 hm hs
      simp only [Bool.and_eq_true, decide_eq_true_eq, Bool.not_eq_true'] at h
      obtain ⟨rfl, rfl, hdel, hd, hb⟩ := h
      obtain ⟨nm, bs, mro, ns, qn, hdi, sn, sub, ab, col, del⟩ := cd
      dsimp only at hm hdel hd
      subst hm hdel hd
      have hsl : sl = #[k0, k1, k2, k3, some (.builtin "ValueError.__new__"), k5] := by
        obtain ⟨l⟩ := sl
        simp only at hs
        rw [hs]
      subst hsl
      exact ⟨nm, qn, ns, bs, bm, sn, sub, ab, col, dd, k0, k1, k2, k3, k5, ho, hb⟩
    · cases h
  · cases h
theorem xn_of {P : Program} {K : PySem.W.Frag} {x q : Str} {S : Stmt} (e : ixW K x = ixV q S) (h : xnB P K x = true) :
    ∃ cc c, XnF P K (He.ga K x) (ixA K x) cc ⟨"__init__", q, defArgs S, defBody S, defScope S, [("__class__", cc)], c⟩ := by
  unfold xnB at h
  simp only [Bool.and_eq_true, decide_eq_true_eq] at h
  obtain ⟨h1, h2, h3, h4, h5, h6, h7, h8, h9, h10, h11, h12, h13⟩ := h
  unfold cloB at h2
  unfold ixW at e
  cases ql : K.lookup (ixA K x) with
  | none =>
    rw [ql] at h2
    cases h2
  | some o =>
    obtain ⟨oc, od, dt, osl⟩ := o
    rw [ql] at h2 e
    cases dt with
    | func fd =>
      obtain ⟨n1, n2, n3, n4, n5, n6, n7, n8, n9, n10, n11, n12, n13, n14, n15⟩ := fd
      have e2 : (some (n1, n2, n3, n4, n5, n6, n7.map (·.1), n15) : IxW) = ixV q S := e
      unfold ixV at e2
      simp only [Option.some.injEq, Prod.mk.injEq] at e2
      obtain ⟨g1, g2, g3, g4, g5, g6, g7, g8⟩ := e2
      subst g1 g2 g3 g4 g5 g6 g8
      dsimp only at h2
      split at h2
      · rename_i nmc cc cda
        simp only [Bool.and_eq_true] at h2
        obtain ⟨k1, k2, k3⟩ := h2
        have g7' : nmc = "__class__" := by simpa using g7
        subst g7'
        exact ⟨cc, cda, ⟨⟨oexB_ok h1, He.eqO_ok h6, h7, h8, h9⟩, He.eqO_ok h3, h4, He.eqO_ok h5, ⟨oc, od, _, _, _, _, _, osl, ql⟩, k3, rfl, k2, k1, He.eqO_ok h10, h11, h12, He.eqO_ok h13⟩⟩
      · cases h2
    | _ => cases h2
abbrev PG : Program := PySem.Challenge.pw_orrery_k90_whole_edits_and_undos
abbrev S_NSC : Stmt := L2.inClass (top 4) 0
abbrev S_NSS : Stmt := L2.inClass (top 5) 0
end K9
set_option Elab.async false
set_option linter.all false
set_option maxRecDepth 100000
set_option maxHeartbeats 0
/-! K9H: the head, run: what the module's top leaves. -/
namespace K9
open PySem PySem.W PySem.Calls PyProof.Rows
abbrev R : OpenRow := OpenLaw.row PySem.Challenge.rw_orrery_k90_whole_edits_and_undos
abbrev qv : Program := view R.prog [0, 134]
def names0 : List PySem.Str := [("OrreryError" : PySem.Str), ("BadArgument" : PySem.Str), ("NoSuchCraft" : PySem.Str), ("NoSuchSite" : PySem.Str), ("TooMany" : PySem.Str), ("BeforeStart" : PySem.Str), ("BurnsOverlap" : PySem.Str), ("NoSuchBurn" : PySem.Str), ("NoSuchSighting" : PySem.Str), ("find_named" : PySem.Str), ("put_named" : PySem.Str), ("drop_named" : PySem.Str), ("craft_of" : PySem.Str), ("site_of" : PySem.Str), ("LAST_TICK" : PySem.Str), ("MOST" : PySem.Str), ("MOST_DRIFT" : PySem.Str), ("check" : PySem.Str), ("is_name" : PySem.Str), ("is_tick" : PySem.Str)]
def names1 : List PySem.Str := [("is_box" : PySem.Str), ("Body" : PySem.Str), ("Burn" : PySem.Str), ("Sighting" : PySem.Str), ("Craft" : PySem.Str), ("Site" : PySem.Str), ("Contents" : PySem.Str), ("same_craft" : PySem.Str), ("craft_data" : PySem.Str), ("body_data" : PySem.Str), ("entries" : PySem.Str), ("first_difference" : PySem.Str), ("touched_at" : PySem.Str), ("rules_differ" : PySem.Str), ("touched_crafts" : PySem.Str), ("touched_sites" : PySem.Str), ("gone" : PySem.Str), ("differences" : PySem.Str), ("MOST_CRAFT" : PySem.Str), ("MOST_SITES" : PySem.Str)]
def names2 : List PySem.Str := [("MOST_OF_CRAFT" : PySem.Str), ("with_crafts" : PySem.Str), ("with_sites" : PySem.Str), ("changed_craft" : PySem.Str), ("add_craft" : PySem.Str), ("drop_craft" : PySem.Str), ("set_drift" : PySem.Str), ("add_burn" : PySem.Str), ("drop_burn" : PySem.Str), ("add_sighting" : PySem.Str), ("drop_sighting" : PySem.Str), ("add_site" : PySem.Str), ("drop_site" : PySem.Str), ("set_body" : PySem.Str), ("set_stride" : PySem.Str), ("set_fineness" : PySem.Str), ("ONE" : PySem.Str), ("TWO" : PySem.Str), ("apply_edit" : PySem.Str), ("KEPT" : PySem.Str)]
def names3 : List PySem.Str := [("Catalogue" : PySem.Str), ("write_line" : PySem.Str), ("box_numbers" : PySem.Str), ("HEAD" : PySem.Str), ("texts" : PySem.Str), ("craft_lines" : PySem.Str), ("head_lines" : PySem.Str), ("saved_text" : PySem.Str), ("add" : PySem.Str), ("subtract" : PySem.Str), ("scaled" : PySem.Str), ("multiply" : PySem.Str), ("square" : PySem.Str), ("quotient" : PySem.Str), ("root" : PySem.Str), ("meet" : PySem.Str), ("hull" : PySem.Str), ("widened" : PySem.Str), ("middle" : PySem.Str), ("width" : PySem.Str)]
def names4 : List PySem.Str := [("size" : PySem.Str), ("box_add" : PySem.Str), ("box_hull" : PySem.Str), ("box_widened" : PySem.Str), ("box_meet" : PySem.Str), ("square_length" : PySem.Str), ("box_size" : PySem.Str), ("FACTORS" : PySem.Str), ("pull_over" : PySem.Str), ("NOTHING" : PySem.Str), ("push_at" : PySem.Str), ("State" : PySem.Str), ("put" : PySem.Str), ("split" : PySem.Str), ("parts_of" : PySem.Str), ("LIMIT" : PySem.Str), ("step" : PySem.Str), ("cut" : PySem.Str), ("sighting_at" : PySem.Str), ("cut_all" : PySem.Str)]
def names5 : List PySem.Str := [("first_states" : PySem.Str), ("Piece" : PySem.Str), ("Course" : PySem.Str), ("next_rows" : PySem.Str), ("course" : PySem.Str), ("_law_row" : PySem.Str), ("_law_spread" : PySem.Str), ("_law_box" : PySem.Str), ("_law_craft" : PySem.Str), ("_law_world" : PySem.Str), ("_law_turn" : PySem.Str), ("_law_data" : PySem.Str), ("_law_made" : PySem.Str), ("_law_wide" : PySem.Str), ("_law_drawn_edit" : PySem.Str), ("_law_pieces" : PySem.Str)]
def names : List PySem.Str := names0 ++ names1 ++ names2 ++ names3 ++ names4 ++ names5
/-! ### the part that is looked at -/
def refsX (o : Obj) : List Addr := match o.data with
  | .seq its _ => its.toList.flatMap He.refV
  | .dict es _ => es.toList.flatMap fun e => He.refV e.val
  | .func fd => He.refV fd.code ++ (He.refV fd.defaults ++ fd.closure.map (·.2))
  | .cls cd => [cd.ns]
  | _ => []
def growX (g : Addr → Option Obj) (as : List Addr) : List Addr := as.flatMap fun a => match g a with
  | some o => refsX o
  | none => []
def asX (g : Addr → Option Obj) : Nat → List Addr → List Addr
  | 0, as => as
  | n + 1, as => as ++ asX g n (growX g as)
def frX (g : Addr → Option Obj) : Frag := He.frG g (cStatics :: asX g 5 [mainGlobals])
abbrev AlX : Type := He.AlT × List IxW × Bool
def obsX (K : Frag) : AlX := (He.obsT fa.flatten fn.flatten ts K, [ixW K "NoSuchCraft", ixW K "NoSuchSite"], exB K && (xnB PG K "NoSuchCraft" && xnB PG K "NoSuchSite"))
def valX (w : World) : AlX := (He.valT fn.flatten ts w, [ixV "NoSuchCraft.__init__" S_NSC, ixV "NoSuchSite.__init__" S_NSS], true)
def hkX : Hook where
  α := AlX
  obs := fun s => obsX (frX s.heap.get?)
  val := valX
  says := fun w h => ∃ K : Frag, K.In h ∧ obsX K = valX w
  of := fun _ _ e => ⟨_, He.frG_in, e⟩
  keeps := fun _ _ _ ⟨K, hK, c⟩ k => ⟨K, Frag.In.keeps hK k, c⟩
def obX (s : SharedT) : AlX := obsX (frX (HandSHeadRun.getT s))
theorem obX_eq (s : SharedT) : obX s = hkX.obs s.abs := by
  have e : HandSHeadRun.getT s = s.abs.heap.get? := funext (HandSHeadRun.getT_eq s)
  unfold obX
  rw [e] <;> rfl
end K9
set_option Elab.async false
set_option linter.all false
set_option maxRecDepth 100000
set_option maxHeartbeats 0
/-! K9H1: the run, in two looks, at both rows. -/
namespace K9
open PySem PySem.W PySem.Calls PyProof.Rows
abbrev RunA (w : World) : Prop := HeadRun.RunEqI R qv Hook.none (fun _ => ()) 8000 names w
abbrev RunB (w : World) : Prop := (HeadRun.wholeF (fun p => HeadRun.stepQ (HeadRun.denQ HeadRun.tabQ) p w) HeadRun.fenceQ 8000 R.prog).map (fun x => obX x.2) = some (valX w)
theorem runA0 (w : World) : RunA (w.withFollow "special-get-raises" false) := by
  unfold RunA HeadRun.RunEqI
  kernel_rfl
theorem runA1 (w : World) : RunA (w.withFollow "special-get-raises" true) := by
  unfold RunA HeadRun.RunEqI
  kernel_rfl
theorem runB0 (w : World) : RunB (w.withFollow "special-get-raises" false) := by
  unfold RunB
  kernel_rfl
theorem runB1 (w : World) : RunB (w.withFollow "special-get-raises" true) := by
  unfold RunB
  kernel_rfl
theorem runA (w : World) : RunA w := byRow2 "special-get-raises" (P := RunA) runA0 runA1 w
theorem runB (w : World) : RunB w := byRow2 "special-get-raises" (P := RunB) runB0 runB1 w
theorem run_join {X β γ δ : Type} {W : Option X} {l1 : X → β} {l2 : X → γ} {o : X → δ} {b : β} {c : γ} {d : δ} (A : W.map (fun x => (l1 x, l2 x, ())) = some (b, c, ())) (B : W.map o = some d) : W.map (fun x => (l1 x, l2 x, o x)) = some (b, c, d) := by
  cases W with
  | none => cases B
  | some x =>
    have e1 : (l1 x, l2 x, ()) = (b, c, ()) := Option.some.inj A
    have e2 : o x = d := Option.some.inj B
    have h1 : l1 x = b := congrArg (fun z : β × γ × Unit => z.1) e1
    have h2 : l2 x = c := congrArg (fun z : β × γ × Unit => z.2.1) e1
    rw [← h1, ← h2, ← e2] <;> rfl
theorem run (w : World) : HeadRun.RunEqI R qv hkX obX 8000 names w := run_join (runA w) (runB w)
end K9
set_option Elab.async false
set_option linter.all false
set_option maxRecDepth 100000
set_option maxHeartbeats 4000000
/-! K9E: more rules over the denotations; what the program's data look like. -/
namespace K9
open PySem PySem.Spec PyProof.Rows L2
section
variable {K : PySem.W.Frag} {G : Cn} {ta tb tc td te : TE} {tt tu : TT} {a b c d d0 d1 d2 : Dn} {ds : List Dn}
theorem g_ixT0 (h : EvG ta G (PT K (d0 :: ds))) : EvG (tOp (rIxT K) ta (tC (.int 0))) G d0 := g_ixT 0 h g_c rfl rfl
theorem g_ixT1 (h : EvG ta G (PT K (d0 :: d1 :: ds))) : EvG (tOp (rIxT K) ta (tC (.int 1))) G d1 := g_ixT 1 h g_c rfl rfl
theorem g_ixT2 (h : EvG ta G (PT K (d0 :: d1 :: d2 :: ds))) : EvG (tOp (rIxT K) ta (tC (.int 2))) G d2 := g_ixT 2 h g_c rfl rfl
theorem g_ixL0 (h : EvG ta G (PL (d0 :: ds))) : EvG (tOp (rIxL K) ta (tC (.int 0))) G d0 := g_ixL 0 h g_c rfl rfl
theorem g_ixL1 (h : EvG ta G (PL (d0 :: d1 :: ds))) : EvG (tOp (rIxL K) ta (tC (.int 1))) G d1 := g_ixL 1 h g_c rfl rfl
theorem g_ixL2 (h : EvG ta G (PL (d0 :: d1 :: d2 :: ds))) : EvG (tOp (rIxL K) ta (tC (.int 2))) G d2 := g_ixL 2 h g_c rfl rfl
theorem g_cd {v : V} (h : ∀ H, d.holds H v) : EvG (tC v) G d := fun s H0 H sm sl Q k => k v H0 H (.refl sm) (h H0)
theorem g_notV {j : Bool} (h1 : EvG ta G (PB j)) : EvG (tNotV ta) G (PB (!j)) := fun s H0 H sm sl Q q => h1 s H0 H sm sl _ fun v H1 H' g hv => ⟨j, hv, q _ H1 H' g rfl⟩
/-- a op b op c op d, a test -/
def tChain3 (r r' r2 : R2) (ta tb tc td : TE) : TT := fun σ H Q => ta σ H fun x H1 => tb σ H1 fun y H2 => r x y H2 fun z H3 => ∃ k, z = .bl k ∧
  (if k = true then tc σ H3 fun w' H4 => r' y w' H4 fun z2 H5 => ∃ k2, z2 = .bl k2 ∧ (if k2 = true then td σ H5 fun w2 H6 => r2 w' w2 H6 fun z3 H7 => ∃ k3, z3 = .bl k3 ∧ Q k3 H7 else Q false H5) else Q false H3)
theorem pt_chain3 {X : Cx} {a b c d : Expr} {pos : Pos} {op op' op2 : CmpOp} {r r' r2 : R2} (ho : OpR X (compareOp op) r) (ho' : OpR X (compareOp op') r') (ho2 : OpR X (compareOp op2) r2) (ha : PE X a ta) (hb : PE X b tb) (hc : PE X c tc) (hd : PE X d td)
    (hm : lastMarks [op, op', op2] [b, c, d] = false := by with_unfolding_all rfl) : L2.PT X (.Compare a [op, op', op2] [b, c, d] pos) (tChain3 r r' r2 ta tb tc td) := by
  refine ⟨fun pins s σ H Q I h => ?_⟩
  refine isTrue_chain (thn (ha.run pins s σ H _ I h) fun v s1 ⟨x, H1, I1, r1, q1⟩ => test_link (thn (hb.run pins s1 σ H1 _ I1 q1) fun u s2 ⟨y, H2, I2, r2', q2⟩ =>
    thn (ho pins s2 σ H2 x y v u _ I2 r1 r2' q2) fun d' s3 ⟨z, H3, I3, r3, k, e, q3⟩ => ?_)) hm
  subst e
  cases r3
  refine wpAny_truthy_bool ?_
  cases k with
  | false => exact ite_ff ⟨H3, I3, q3⟩
  | true =>
    refine ite_tt (test_link (thn (hc.run pins s3 σ H3 _ I3 q3) fun w' s4 ⟨z', H4, I4, r4, q4⟩ => thn (ho' pins s4 σ H4 y z' u w' _ I4 r2' r4 q4) fun d2 s5 ⟨z2, H5, I5, r5, k2, e2, q5⟩ => ?_))
    subst e2
    cases r5
    refine wpAny_truthy_bool ?_
    cases k2 with
    | false => exact ite_ff ⟨H5, I5, q5⟩
    | true =>
      refine ite_tt (test_last (thn (hd.run pins s5 σ H5 _ I5 q5) fun w2 s6 ⟨z6, H6, I6, r6, q6⟩ => thn (ho2 pins s6 σ H6 z' z6 w' w2 _ I6 r4 r6 q6) fun d3 s7 ⟨z3, H7, I7, r7, k3, e3, q7⟩ => ?_))
      subst e3
      cases r7
      exact wpAny_truthy_bool ⟨H7, I7, q7⟩
theorem t_chain3 {r r' r2 : R2} {j k l : Bool} (ha : EvG ta G a) (hb : EvG tb G b) (hr : R2G r a b (PB j)) (hc : j = true → EvG tc G c) (hr' : R2G r' b c (PB k)) (hd : k = true → EvG td G d) (hr2 : R2G r2 c d (PB l)) : EvT (tChain3 r r' r2 ta tb tc td) G (j && (k && l)) := fun s H0 H sm sl Q q =>
  ha.at_ sm sl fun x H1 H' g1 sl1 hx => hb.at_ g1.b sl1 fun y H2 H'' g2 sl2 hy => hr x y H2 H'' g2.b (a.mono g2.a hx) hy _ fun v H3 H3' g3 hv => ⟨j, hv, by
    have g13 := (g1.trans g2).trans g3
    cases j with
    | false => exact q H3 H3' g13
    | true => exact (hc rfl).at_ g3.b (sl2.mono g3.a) fun z H4 H4' g4 sl4 hz => hr' y z H4 H4' g4.b (b.mono (g3.a.trans g4.a) hy) hz _ fun v5 H5 H5' g5 hv5 => ⟨k, hv5, by
        have g15 := (g13.trans g4).trans g5
        cases k with
        | false => exact q H5 H5' g15
        | true => exact (hd rfl).at_ g5.b (sl4.mono g5.a) fun z6 H6 H6' g6 sl6 hz6 => hr2 z z6 H6 H6' g6.b (c.mono (g5.a.trans g6.a) hz) hz6 _ fun v7 H7 H7' g7 hv7 => ⟨l, hv7, q H7 H7' ((g15.trans g6).trans g7)⟩⟩⟩
/-- min, max of a list of four -/
theorem mn4_of {a b c d m : Int} (hm : m ∈ [a, b, c, d]) (h : ∀ y, y ∈ [a, b, c, d] → m ≤ y) : m = mn4 a b c d := by
  have h1 := h a (by simp)
  have h2 := h b (by simp)
  have h3 := h c (by simp)
  have h4 := h d (by simp)
  have h5 : m = a ∨ m = b ∨ m = c ∨ m = d := by simpa using hm
  unfold mn4 mn
  repeat' split
  all_goals omega
theorem mx4_of {a b c d m : Int} (hm : m ∈ [a, b, c, d]) (h : ∀ y, y ∈ [a, b, c, d] → y ≤ m) : m = mx4 a b c d := by
  have h1 := h a (by simp)
  have h2 := h b (by simp)
  have h3 := h c (by simp)
  have h4 := h d (by simp)
  have h5 : m = a ∨ m = b ∨ m = c ∨ m = d := by simpa using hm
  unfold mx4 mx
  repeat' split
  all_goals omega
theorem pints {H : Hp} {ns : List Int} {vs : List V} (h : AllH H (ns.map fun i => PI i) vs) : vs = ns.map V.int := by
  have e : (ns.map fun i => PI i) = (ns.map V.int).map PV := by rw [List.map_map]; rfl
  rw [e] at h
  exact h.pv
theorem r_min4 {i j l m : Int} : RAG (rMin K) [PL [PI i, PI j, PI l, PI m]] (PI (mn4 i j l m)) := fun xs H0 H sm h Q k => by
  obtain ⟨v, rfl, p, vs, rfl, hl, ha⟩ := all1 h
  have e := pints (ns := [i, j, l, m]) ha
  subst e
  exact ⟨p, [i, j, l, m], rfl, SqL.of (sm _ _ hl), by simp, fun x hx hy => k _ H0 H (.refl sm) (congrArg V.int (mn4_of hx hy))⟩
theorem r_max4 {i j l m : Int} : RAG (rMax K) [PL [PI i, PI j, PI l, PI m]] (PI (mx4 i j l m)) := fun xs H0 H sm h Q k => by
  obtain ⟨v, rfl, p, vs, rfl, hl, ha⟩ := all1 h
  have e := pints (ns := [i, j, l, m]) ha
  subst e
  exact ⟨p, [i, j, l, m], rfl, SqL.of (sm _ _ hl), by simp, fun x hx hy => k _ H0 H (.refl sm) (congrArg V.int (mx4_of hx hy))⟩
/-- anything -/
def PAny : Dn := ⟨fun _ _ => True, fun _ h => h⟩
theorem r_minA {ns : List Int} (hn : 0 < ns.length) : RAG (rMin K) [PL (ns.map fun i => PI i)] PAny := fun xs H0 H sm h Q k => by
  obtain ⟨v, rfl, p, vs, rfl, hl, ha⟩ := all1 h
  have e := pints ha
  subst e
  exact ⟨p, ns, rfl, SqL.of (sm _ _ hl), hn, fun x hx hy => k _ H0 H (.refl sm) trivial⟩
/-- texts -/
theorem g_addS {x y : Str} (ha : EvG ta G (PS x)) (hb : EvG tb G (PS y)) (h : x.length + y.length ≤ 16777216) : EvG (tOp (fun x y H Q => ∃ i j, x = V.str i ∧ y = V.str j ∧ i.length + j.length ≤ sizeLine ∧ Q (.str (i ++ j)) H) ta tb) G (PS (x ++ y)) :=
  g_op ha hb fun u v H0 H sm hx hy Q k => ⟨x, y, hx, hy, by rw [sizeLine_eq]; exact h, k _ H0 H (.refl sm) rfl⟩
def ltS (x y : Str) : Bool := decide (x.cps.toList < y.cps.toList)
theorem g_ltS {x y : Str} (ha : EvG ta G (PS x)) (hb : EvG tb G (PS y)) : EvG (tOp (fun x y H Q => ∃ i j, x = V.str i ∧ y = V.str j ∧ Q (.bl (decide (i.cps.toList < j.cps.toList))) H) ta tb) G (PB (ltS x y)) :=
  g_op ha hb fun u v H0 H sm hx hy Q k => ⟨x, y, hx, hy, k _ H0 H (.refl sm) rfl⟩
theorem g_gtS {x y : Str} (ha : EvG ta G (PS x)) (hb : EvG tb G (PS y)) : EvG (tOp (fun x y H Q => ∃ i j, x = V.str i ∧ y = V.str j ∧ Q (.bl (decide (j.cps.toList < i.cps.toList))) H) ta tb) G (PB (ltS y x)) :=
  g_op ha hb fun u v H0 H sm hx hy Q k => ⟨x, y, hx, hy, k _ H0 H (.refl sm) rfl⟩
/-- maybe -/
def popt {A : Type} (o : Option A) (f : A → Dn) : Dn := match o with
  | none => PN
  | some x => f x
/-! ### in sequence -/
section
variable {B0 B : Hp} {W : Option Ow} {s : L2.St} {H : Hp} {D : Ends} {tl tv : TE} {rest tu tw tb : TS} {d' : Dn}
theorem st_retE (h : OkS B0 B G W s H) (ev : EvG te G d') (e : d = d') (k : ∀ v H0' H', Grow B0 B H0' H' → d.holds H0' v → D.rt v H') : tRet te D s H := by
  subst e
  exact st_ret h ev k
theorem sq_asg {i : Nat} (h : OkS B0 B G W s H) (ev : EvG te G d) (k : ∀ s' H', OkS B0 B (G.set i (some d)) W s' H' → rest D s' H') : tSeq (tAsg te (gName i)) rest D s H := st_asg (D := { D with nx := rest D }) h ev k
theorem sq_drop (h : OkS B0 B G W s H) (ev : EvG te G d) (k : ∀ H', OkS B0 B G W s H' → rest D s H') : tSeq (tDrop te) rest D s H := st_drop (D := { D with nx := rest D }) h ev k
theorem sq_if {b : Bool} (h : OkS B0 B G W s H) (ev : EvT tt G b) (h1 : b = true → ∀ H', OkS B0 B G W s H' → tu { D with nx := rest D } s H') (h2 : b = false → ∀ H', OkS B0 B G W s H' → tw { D with nx := rest D } s H') : tSeq (tIfS tt tu tw) rest D s H := st_if (D := { D with nx := rest D }) h ev h1 h2
theorem sq_if0 {b : Bool} (h : OkS B0 B G W s H) (ev : EvT tt G b) (h1 : b = true → ∀ H', OkS B0 B G W s H' → tu { D with nx := rest D } s H') (h2 : b = false → ∀ H', OkS B0 B G W s H' → rest D s H') : tSeq (tIfS tt tu tNext) rest D s H := st_if (D := { D with nx := rest D }) h ev h1 h2
theorem sq_augI {i : Nat} {f : Int → Int → Int} {a b : Int} (h : OkS B0 B G W s H) (hx : G[i]? = some (some (PI a))) (ev : EvG te G (PI b)) (k : ∀ s' H', OkS B0 B (G.set i (some (PI (f a b)))) W s' H' → rest D s' H') : tSeq (tAug i te (ipI f)) rest D s H := st_augI (D := { D with nx := rest D }) h hx ev k
theorem sq_asgT {g : TG} {G' : Cn} (h : OkS B0 B G W s H) (ev : EvG te G d) (tg : TgG g G d G') (k : ∀ s' H', OkS B0 B G' W s' H' → rest D s' H') : tSeq (tAsg te g) rest D s H := st_asgT (D := { D with nx := rest D }) h ev tg k
theorem sq_own {i : Nat} {t : TA} {ds : List Dn} (h : OkS B0 B G none s H) (ev : EvA t G ds) (k : ∀ l s' H', OkS B0 B (G.set i (some (PV (.ref l)))) (some (owL l ds)) s' H' → rest D s' H') (hl : ds.length ≤ 100000 := by first | (show _ ≤ 100000; decide) | (simp only [List.length_cons, List.length_nil]; omega)) : tSeq (tAsg (tLst t) (gName i)) rest D s H := st_own (D := { D with nx := rest D }) h ev hl k
theorem sq_app {l : Addr} {ds : List Dn} (h : OkS B0 B G (some (owL l ds)) s H) (ho : EvG tl G (PV (.ref l))) (ev : EvG te G d) (hl : ds.length < 100000) (k : ∀ H', OkS B0 B G (some (owL l (ds ++ [d]))) s H' → rest D s H') : tSeq (tDrop (tBM K "list" rAppend tl (tCons te tNil))) rest D s H := st_app (D := { D with nx := rest D }) h ho ev hl k
theorem sq_fld {p C dx : Addr} {fs fs' : List (Str × Dn)} {f : Str} (h : OkS B0 B G (some (owI p C dx fs)) s H) (ev : EvG tv G d) (eo : EvG ta G (PV (.ref p))) (hc : Cls K C) (hn : NoAttr K C f) (hl : fs.length < 1000) (e : putD f d fs = fs') (k : ∀ H', OkS B0 B G (some (owI p C dx fs')) s H' → rest D s H') : tSeq (sFld K ta tv f) rest D s H := st_fld (D := { D with nx := rest D }) h ev eo hc hn hl e k
end
theorem Sl.drop {H0 : Hp} {G : Cn} {s : L2.St} (h : Sl H0 G s) (i : Nat) : Sl H0 (G.set i none) s := ⟨by rw [List.length_set]; exact h.len, fun j e k => by
  by_cases hj : i = j
  · subst hj
    have hi : i < G.length := by
      have q := (List.getElem?_eq_some_iff.mp k).1
      rwa [List.length_set] at q
    rw [List.getElem?_set_self hi] at k
    exact nomatch k
  · rw [List.getElem?_set_ne hj] at k
    exact h.at_ j e k⟩
theorem Sl.drops {H0 : Hp} {G : Cn} {s : L2.St} (h : Sl H0 G s) : ∀ vs : List Nat, Sl H0 (wipeD G vs) s
  | [] => h
  | v :: vs => (Sl.drops h vs).drop v
section
variable {B0 B : Hp} {W : Option Ow} {s : L2.St} {H : Hp} {D : Ends} {tl tv : TE} {rest tu tw tb : TS} {d' : Dn}
/-- forget slots -/
theorem OkS.forget (h : OkS B0 B G W s H) (vs : List Nat) : OkS B0 B (wipeD G vs) W s H := by
  obtain ⟨H0, g, sl, ow⟩ := h.ex
  exact ⟨H0, g, sl.drops vs, ow⟩
theorem OkS.imp {i : Nat} {d d' : Dn} (h : OkS B0 B G W s H) (hi : G[i]? = some (some d)) (e : ∀ H v, d.holds H v → d'.holds H v) : OkS B0 B (G.set i (some d')) W s H := by
  obtain ⟨H0, g, sl, ow⟩ := h.ex
  obtain ⟨v, h1, h2⟩ := sl.at_ i d hi
  refine ⟨H0, g, ?_, ow⟩
  have q := sl.set (i := i) (e _ _ h2)
  have es : s.set i (some v) = s := by
    have hlt : i < s.length := (List.getElem?_eq_some_iff.mp h1).1
    have e2 := (List.getElem?_eq_some_iff.mp h1).2
    rw [← e2]
    exact List.set_getElem_self hlt
  rw [es] at q
  exact q
/-! loops with a state x of one's own, of which R speaks -/
theorem st_forLx {A : Type} {g : TG} {ds : List Dn} (R : Nat → A → Prop) (Gs Gt : Nat → A → Cn) (Ws : Nat → A → Option Ow) (x0 : A) (r0 : R 0 x0) (h : OkS B0 B (Gs 0 x0) (Ws 0 x0) s H) (ev : EvG te (Gs 0 x0) (PL ds))
    (tg : ∀ i d x, ds[i]? = some d → R i x → TgG g (Gs i x) d (Gt i x))
    (body : ∀ C0 C, (∀ {G' W' s' H'}, OkS C0 C G' W' s' H' → OkS B0 B G' W' s' H') → ∀ i d x, ds[i]? = some d → R i x → ∀ s' H', OkS C0 C (Gt i x) (Ws i x) s' H' → ∀ N : L2.St → Hp → Prop, (∀ s2 H2 y, R (i + 1) y → OkS C0 C (Gs (i + 1) y) (Ws (i + 1) y) s2 H2 → N s2 H2) → tb { D with nx := N, ct := N, bk := D.nx } s' H')
    (k : ∀ x s' H', R ds.length x → OkS B0 B (Gs ds.length x) (Ws ds.length x) s' H' → D.nx s' H') : tFor (iList K te) g tb D s H := by
  refine h.ev ev fun v H0 H1 gr sl ow ⟨a, vs, e, hl, ha⟩ => ?_
  obtain ⟨ok, gb⟩ := OkS.base gr sl ow
  have up : ∀ {G' W' s' H'}, OkS H0 (offW (Ws 0 x0) H1) G' W' s' H' → OkS B0 B G' W' s' H' := fun q => OkS.up gb q
  have hl1 : SqL K H1 a vs := SqL.of (gr.b _ _ hl)
  refine ⟨a, e, ⟨vs, hl1⟩, for_list (K := K) (a := a) (xs := vs) (fun i s' H' => ∃ x, R i x ∧ OkS H0 (offW (Ws 0 x0) H1) (Gs i x) (Ws i x) s' H') ⟨x0, r0, ok⟩ (fun i s' H' hi ⟨x, r, p⟩ => ?_) (fun i y s' H' hx ⟨x, r, p⟩ => ?_) (fun s' H' ⟨x, r, p⟩ => ?_)⟩
  · obtain ⟨H2, g2, _⟩ := p.ex
    exact SqL.of (g2.b _ _ (g2.a _ _ hl))
  · obtain ⟨d, hd, hdx⟩ := ha.at_ hx
    obtain ⟨H2, g2, sl2, ow2⟩ := p.ex
    exact tg i d x hd r s' H2 H' y g2.b sl2 (d.mono g2.a hdx) _ fun s'' sl'' => body H0 (offW (Ws 0 x0) H1) up i d x hd r s'' H' ⟨H2, g2, sl'', ow2⟩ _ fun s2 H2 y r2 ok2 => ⟨y, r2, ok2⟩
  · rw [← ha.len] at r p
    exact k x s' H' r (up p)
theorem st_forTx {A : Type} {g : TG} {ds : List Dn} (R : Nat → A → Prop) (Gs Gt : Nat → A → Cn) (Ws : Nat → A → Option Ow) (x0 : A) (r0 : R 0 x0) (h : OkS B0 B (Gs 0 x0) (Ws 0 x0) s H) (ev : EvG te (Gs 0 x0) (PT K ds))
    (tg : ∀ i d x, ds[i]? = some d → R i x → TgG g (Gs i x) d (Gt i x))
    (body : ∀ C0 C, (∀ {G' W' s' H'}, OkS C0 C G' W' s' H' → OkS B0 B G' W' s' H') → ∀ i d x, ds[i]? = some d → R i x → ∀ s' H', OkS C0 C (Gt i x) (Ws i x) s' H' → ∀ N : L2.St → Hp → Prop, (∀ s2 H2 y, R (i + 1) y → OkS C0 C (Gs (i + 1) y) (Ws (i + 1) y) s2 H2 → N s2 H2) → tb { D with nx := N, ct := N, bk := D.nx } s' H')
    (k : ∀ x s' H', R ds.length x → OkS B0 B (Gs ds.length x) (Ws ds.length x) s' H' → D.nx s' H') : tFor (iTup K te) g tb D s H := by
  refine h.ev ev fun v H0 H1 gr sl ow ⟨a, vs, e, hl, ha⟩ => ?_
  obtain ⟨ok, gb⟩ := OkS.base gr sl ow
  have up : ∀ {G' W' s' H'}, OkS H0 (offW (Ws 0 x0) H1) G' W' s' H' → OkS B0 B G' W' s' H' := fun q => OkS.up gb q
  have hl1 : SqT K H1 a vs := same_t gr.b hl
  refine ⟨a, e, ⟨vs, hl1⟩, for_tup (K := K) (a := a) (xs := vs) (fun i s' H' => ∃ x, R i x ∧ OkS H0 (offW (Ws 0 x0) H1) (Gs i x) (Ws i x) s' H') ⟨x0, r0, ok⟩ (fun i s' H' hi ⟨x, r, p⟩ => ?_) (fun i y s' H' hx ⟨x, r, p⟩ => ?_) (fun s' H' ⟨x, r, p⟩ => ?_)⟩
  · obtain ⟨H2, g2, _⟩ := p.ex
    exact same_t (g2.a.trans g2.b) hl
  · obtain ⟨d, hd, hdx⟩ := ha.at_ hx
    obtain ⟨H2, g2, sl2, ow2⟩ := p.ex
    exact tg i d x hd r s' H2 H' y g2.b sl2 (d.mono g2.a hdx) _ fun s'' sl'' => body H0 (offW (Ws 0 x0) H1) up i d x hd r s'' H' ⟨H2, g2, sl'', ow2⟩ _ fun s2 H2 y r2 ok2 => ⟨y, r2, ok2⟩
  · rw [← ha.len] at r p
    exact k x s' H' r (up p)
theorem st_forRx {A : Type} {g : TG} {t : TA} {n : Int} (m : Nat) (R : Nat → A → Prop) (Gs Gt : Nat → A → Cn) (Ws : Nat → A → Option Ow) (x0 : A) (r0 : R 0 x0) (h : OkS B0 B (Gs 0 x0) (Ws 0 x0) s H) (ev : EvA t (Gs 0 x0) [PI n]) (hn : n.toNat = m) (hb : -(2 ^ 62) ≤ n ∧ n < 2 ^ 62)
    (tg : ∀ i x, i < m → R i x → TgG g (Gs i x) (PI (0 + (i : Int))) (Gt i x))
    (body : ∀ C0 C, (∀ {G' W' s' H'}, OkS C0 C G' W' s' H' → OkS B0 B G' W' s' H') → ∀ i x, i < m → R i x → ∀ s' H', OkS C0 C (Gt i x) (Ws i x) s' H' → ∀ N : L2.St → Hp → Prop, (∀ s2 H2 y, R (i + 1) y → OkS C0 C (Gs (i + 1) y) (Ws (i + 1) y) s2 H2 → N s2 H2) → tb { D with nx := N, ct := N, bk := D.nx } s' H')
    (k : ∀ x s' H', R m x → OkS B0 B (Gs m x) (Ws m x) s' H' → D.nx s' H') : tFor (iRng1 t) g tb D s H := by
  obtain ⟨H0, g1, sl, ow⟩ := h.ex
  refine ev s H0 H g1.b sl _ fun vs H1 H' gr hvs => ?_
  obtain ⟨v, rfl, ev1⟩ := all1 hvs
  have ev2 : v = .int n := ev1
  subst ev2
  subst hn
  obtain ⟨ok, gb⟩ := OkS.base (g1.trans gr) (sl.mono gr.a) (ow.grow gr)
  have up : ∀ {G' W' s' H2}, OkS H1 (offW (Ws 0 x0) H') G' W' s' H2 → OkS B0 B G' W' s' H2 := fun q => OkS.up gb q
  refine ⟨n, rfl, hb.1, hb.2, for_range (lo := 0) (n := n.toNat) (fun i s' H2 => ∃ x, R i x ∧ OkS H1 (offW (Ws 0 x0) H') (Gs i x) (Ws i x) s' H2) ⟨x0, r0, ok⟩ (fun i s' H2 hi ⟨x, r, p⟩ => ?_) (fun s' H2 ⟨x, r, p⟩ => k x s' H2 r (up p))⟩
  obtain ⟨H3, g2, sl2, ow2⟩ := p.ex
  exact tg i x hi r s' H3 H2 _ g2.b sl2 rfl _ fun s'' sl'' => body H1 (offW (Ws 0 x0) H') up i x hi r s'' H2 ⟨H3, g2, sl'', ow2⟩ _ fun s2 H2 y r2 ok2 => ⟨y, r2, ok2⟩
theorem st_forR2x {A : Type} {g : TG} {t : TA} {lo n : Int} (m : Nat) (R : Nat → A → Prop) (Gs Gt : Nat → A → Cn) (Ws : Nat → A → Option Ow) (x0 : A) (r0 : R 0 x0) (h : OkS B0 B (Gs 0 x0) (Ws 0 x0) s H) (ev : EvA t (Gs 0 x0) [PI lo, PI n]) (hn : (n - lo).toNat = m) (hb : -(2 ^ 62) ≤ lo ∧ lo < 2 ^ 62 ∧ -(2 ^ 62) ≤ n ∧ n < 2 ^ 62)
    (tg : ∀ i x, i < m → R i x → TgG g (Gs i x) (PI (lo + (i : Int))) (Gt i x))
    (body : ∀ C0 C, (∀ {G' W' s' H'}, OkS C0 C G' W' s' H' → OkS B0 B G' W' s' H') → ∀ i x, i < m → R i x → ∀ s' H', OkS C0 C (Gt i x) (Ws i x) s' H' → ∀ N : L2.St → Hp → Prop, (∀ s2 H2 y, R (i + 1) y → OkS C0 C (Gs (i + 1) y) (Ws (i + 1) y) s2 H2 → N s2 H2) → tb { D with nx := N, ct := N, bk := D.nx } s' H')
    (k : ∀ x s' H', R m x → OkS B0 B (Gs m x) (Ws m x) s' H' → D.nx s' H') : tFor (iRng2 t) g tb D s H := by
  obtain ⟨H0, g1, sl, ow⟩ := h.ex
  refine ev s H0 H g1.b sl _ fun vs H1 H' gr hvs => ?_
  obtain ⟨u, v, rfl, ev0, ev1⟩ := all2 hvs
  have ev2 : u = .int lo := ev0
  have ev3 : v = .int n := ev1
  subst ev2 ev3
  subst hn
  obtain ⟨ok, gb⟩ := OkS.base (g1.trans gr) (sl.mono gr.a) (ow.grow gr)
  have up : ∀ {G' W' s' H2}, OkS H1 (offW (Ws 0 x0) H') G' W' s' H2 → OkS B0 B G' W' s' H2 := fun q => OkS.up gb q
  refine ⟨lo, n, rfl, hb, for_range (lo := lo) (n := (n - lo).toNat) (fun i s' H2 => ∃ x, R i x ∧ OkS H1 (offW (Ws 0 x0) H') (Gs i x) (Ws i x) s' H2) ⟨x0, r0, ok⟩ (fun i s' H2 hi ⟨x, r, p⟩ => ?_) (fun s' H2 ⟨x, r, p⟩ => k x s' H2 r (up p))⟩
  obtain ⟨H3, g2, sl2, ow2⟩ := p.ex
  exact tg i x hi r s' H3 H2 _ g2.b sl2 rfl _ fun s'' sl'' => body H1 (offW (Ws 0 x0) H') up i x hi r s'' H2 ⟨H3, g2, sl'', ow2⟩ _ fun s2 H2 y r2 ok2 => ⟨y, r2, ok2⟩
end
/-! ### the program's data -/
abbrev PIv (K : PySem.W.Frag) (a : Iv) : Dn := PT K [PI a.1, PI a.2]
abbrev PBox (K : PySem.W.Frag) (b : Box) : Dn := PT K [PIv K b.1, PIv K b.2.1, PIv K b.2.2]
abbrev PSta (K : PySem.W.Frag) (s : Sta) : Dn := PO (He.ga K "State") [("place", PBox K s.1), ("speed", PBox K s.2)]
end
end K9
set_option Elab.async false
set_option linter.all false
set_option maxRecDepth 100000
set_option maxHeartbeats 4000000
/-! K9N: the program's data, the mirror of motions, journeys, courses. -/
namespace K9
open PySem PySem.Spec PyProof.Rows L2
structure Bu where
  b : Int
  e : Int
  push : Box
structure Sg where
  t : Int
  place : Box
structure Cr where
  name : Str
  start : Int
  place : Box
  speed : Box
  drift : Int
  burns : List Bu
  sights : List Sg
structure Bd where
  mu : Int
  obl : Int
  turn : Int × Int × Int
structure Si where
  name : Str
  place : Int × Int × Int
structure Ct where
  body : Bd
  stride : Int
  fine : Int
  crafts : List Cr
  sites : List Si
section
variable (K : PySem.W.Frag)
abbrev P3 (t : Int × Int × Int) : Dn := PT K [PI t.1, PI t.2.1, PI t.2.2]
abbrev PBu (b : Bu) : Dn := PO (He.ga K "Burn") [("begin", PI b.b), ("end", PI b.e), ("push", PBox K b.push)]
abbrev PSg (s : Sg) : Dn := PO (He.ga K "Sighting") [("at", PI s.t), ("place", PBox K s.place)]
abbrev PCr (c : Cr) : Dn := PO (He.ga K "Craft") [("name", PS c.name), ("start", PI c.start), ("place", PBox K c.place), ("speed", PBox K c.speed), ("drift", PI c.drift), ("burns", PT K (c.burns.map (PBu K))), ("sightings", PT K (c.sights.map (PSg K)))]
abbrev PBd (b : Bd) : Dn := PO (He.ga K "Body") [("mu", PI b.mu), ("oblateness", PI b.obl), ("turn", P3 K b.turn)]
abbrev PSi (s : Si) : Dn := PO (He.ga K "Site") [("name", PS s.name), ("place", P3 K s.place)]
abbrev PCt (c : Ct) : Dn := PO (He.ga K "Contents") [("body", PBd K c.body), ("stride", PI c.stride), ("fineness", PI c.fine), ("crafts", PT K (c.crafts.map (PCr K))), ("sites", PT K (c.sites.map (PSi K)))]
end
/-! ### motions, journeys -/
def zeroB : Box := ((0, 0), (0, 0), (0, 0))
def pushAt (bs : List Bu) (t : Int) : Box := match bs.find? fun b => decide (b.b ≤ t) && decide (t < b.e) with
  | some b => b.push
  | none => zeroB
def seenAt (ss : List Sg) (t : Int) : Option Box := (ss.find? fun s => decide (s.t = t)).map (·.place)
def cutAll (ss : List Sta) : Option Box → List Sta
  | none => ss
  | some b => ss.filterMap fun s => cutS s b
def firstS (n : Nat) (c : Cr) : List Sta := cutAll (partsS (c.place, c.speed) n) (seenAt c.sights c.start)
abbrev Row := Sta × Box
/-- one state's step and cut: none: lost; some none: dropped -/
def goS (bd : Bd) (c : Cr) (t : Int) (s : Sta) : Option (Option Sta) := match stepS bd.mu bd.obl s (pushAt c.burns t) c.drift with
  | none => none
  | some s1 => some (match seenAt c.sights (t + 1) with
    | none => some s1
    | some b => cutS s1 b)
def nextL (bd : Bd) (c : Cr) (t : Int) : List Row → Option (List Row)
  | [] => some []
  | r :: l => match goS bd c t r.1, nextL bd c t l with
    | some (some s2), some l' => some ((s2, hullB r.2 s2.1) :: l')
    | some none, some l' => some l'
    | _, _ => none
def sLost : Str := "lost"
def sVoid : Str := "void"
def sWhole : Str := "whole"
def nextR (bd : Bd) (c : Cr) (t : Int) (rows : List Row) : List Row × Str := match nextL bd c t rows with
  | none => ([], sLost)
  | some l => if l.length = 0 then ([], sVoid) else (l, sWhole)
structure Pc where
  b : Int
  e : Int
  parts : List Box
abbrev Co := List Pc × Str
def startRow (s : Sta) : Row := (s, s.1)
def courseGo (bd : Bd) (stride : Int) (c : Cr) (u : Int) : Nat → Int → Int → List Row → List Pc → Co
  | 0, _, _, _, ps => (ps, sVoid)
  | n + 1, b, t, rows, ps =>
    let ps' := if t = b + stride - 1 then ps ++ [⟨b, t, rows.map (·.2)⟩] else ps
    if t = b + stride - 1 ∧ u ≤ t then (ps', sWhole) else
      let q := nextR bd c t rows
      if q.2 ≠ sWhole then (ps', q.2) else
        if t + 1 = b + stride then courseGo bd stride c u n (t + 1) (t + 1) (q.1.map fun r => startRow r.1) ps' else courseGo bd stride c u n b (t + 1) q.1 ps'
def courseOf (bd : Bd) (stride : Int) (fine : Nat) (c : Cr) (u : Int) : Co :=
  if u < c.start then ([], sWhole) else
    let rows := (firstS fine c).map startRow
    if rows.length = 0 then ([], sVoid) else courseGo bd stride c u ((u + stride - c.start).toNat + 1) c.start c.start rows []
section
variable (K : PySem.W.Frag)
abbrev PRow (r : Row) : Dn := PT K [PSta K r.1, PBox K r.2]
abbrev PPc (p : Pc) : Dn := PO (He.ga K "Piece") [("begin", PI p.b), ("end", PI p.e), ("parts", PT K (p.parts.map (PBox K)))]
abbrev PCo (c : Co) : Dn := PO (He.ga K "Course") [("pieces", PL (c.1.map (PPc K))), ("ending", PS c.2)]
end
/-! ### what keeps them well -/
def okBd (b : Bd) : Prop := bd 100 b.mu ∧ bd 100 b.obl
structure okC (c : Cr) : Prop where
  p : okB c.place
  v : okB c.speed
  d : 0 ≤ c.drift
  b : ∀ x ∈ c.burns, vB x.push
  s : ∀ x ∈ c.sights, bB 134 x.place
theorem pushAt_v {c : Cr} (h : okC c) (t : Int) : vB (pushAt c.burns t) := by
  unfold pushAt
  split
  · rename_i b e
    exact h.b b (List.mem_of_find?_eq_some e)
  · exact ⟨Int.le_refl _, Int.le_refl _, Int.le_refl _⟩
theorem seenAt_b {c : Cr} (h : okC c) {t : Int} {b : Box} (e : seenAt c.sights t = some b) : bB 134 b := by
  unfold seenAt at e
  cases q : c.sights.find? fun s => decide (s.t = t) with
  | none =>
    rw [q] at e
    cases e
  | some s =>
    rw [q] at e
    have e' : s.place = b := Option.some.inj e
    rw [← e']
    exact h.s s (List.mem_of_find?_eq_some q)
theorem cutAll_ok {ss : List Sta} {o : Option Box} (h : ∀ s ∈ ss, okS s) (k : ∀ b, o = some b → bB 134 b) : ∀ s ∈ cutAll ss o, okS s := by
  cases o with
  | none => exact h
  | some b =>
    intro s hs
    obtain ⟨x, hx, e⟩ := List.mem_filterMap.mp hs
    exact cutS_ok (h x hx) (k b rfl) e
theorem cutAll_len (ss : List Sta) (o : Option Box) : (cutAll ss o).length ≤ ss.length := by
  cases o with
  | none => exact Nat.le_refl _
  | some b => exact List.length_filterMap_le _ _
theorem firstS_ok {c : Cr} (h : okC c) (n : Nat) : (∀ s ∈ firstS n c, okS s) ∧ (firstS n c).length ≤ 2 ^ n :=
  ⟨cutAll_ok (partsS_ok ⟨h.p, h.v⟩ n) fun _ e => seenAt_b h e, Nat.le_trans (cutAll_len _ _) (partsS_len _ n)⟩
theorem goS_ok {bd : Bd} {c : Cr} {t : Int} {s s' : Sta} (h : okC c) (k : okS s) (e : goS bd c t s = some (some s')) : okS s' := by
  unfold goS at e
  cases q : stepS bd.mu bd.obl s (pushAt c.burns t) c.drift with
  | none =>
    rw [q] at e
    cases e
  | some s1 =>
    rw [q] at e
    have ok1 := stepS_ok k (pushAt_v h t) h.d q
    have e' := Option.some.inj e
    cases q2 : seenAt c.sights (t + 1) with
    | none =>
      rw [q2] at e'
      have e2 := Option.some.inj e'
      rw [← e2]
      exact ok1
    | some b =>
      rw [q2] at e'
      exact cutS_ok ok1 (seenAt_b h q2) e'
def okR (rows : List Row) : Prop := (∀ r ∈ rows, okS r.1) ∧ rows.length ≤ 64
theorem nextL_ok {bd : Bd} {c : Cr} {t : Int} (h : okC c) : ∀ {rows l : List Row}, (∀ r ∈ rows, okS r.1) → nextL bd c t rows = some l → (∀ r ∈ l, okS r.1) ∧ l.length ≤ rows.length
  | [], l, _, e => by
    have e' : [] = l := Option.some.inj e
    subst e'
    exact ⟨fun _ h => (by simp at h), Nat.le_refl _⟩
  | r :: rs, l, k, e => by
    unfold nextL at e
    have kr := k r List.mem_cons_self
    have ks := fun x hx => k x (List.mem_cons_of_mem _ hx)
    split at e
    · rename_i s2 l' e1 e2
      have e' := Option.some.inj e
      subst e'
      obtain ⟨i1, i2⟩ := nextL_ok h ks e2
      refine ⟨fun x hx => ?_, by rw [List.length_cons, List.length_cons]; omega⟩
      rcases List.mem_cons.mp hx with z | hx
      · rw [z]
        exact goS_ok h kr e1
      · exact i1 x hx
    · rename_i l' e1 e2
      have e' := Option.some.inj e
      subst e'
      obtain ⟨i1, i2⟩ := nextL_ok h ks e2
      exact ⟨i1, by rw [List.length_cons]; omega⟩
    · cases e
theorem nextR_ok {bd : Bd} {c : Cr} {t : Int} {rows : List Row} (h : okC c) (k : okR rows) : okR (nextR bd c t rows).1 := by
  unfold nextR
  split
  · exact ⟨fun _ h => (by simp at h), by simp⟩
  · rename_i l e
    obtain ⟨i1, i2⟩ := nextL_ok h k.1 e
    split
    · exact ⟨fun _ h => (by simp at h), by simp⟩
    · exact ⟨i1, Nat.le_trans i2 k.2⟩
end K9
set_option Elab.async false
set_option linter.all false
set_option maxRecDepth 100000
set_option maxHeartbeats 4000000
/-! K9D1: orrery.space: intervals and boxes keep the mirror. -/
namespace K9
open PySem PySem.Spec PyProof.Rows L2
/-- small numbers: what the rules of * ask -/
def sml (a : Iv) : Prop := bI 100000 a
theorem mulW_of {n m : Nat} {i j : Int} (h : bd n i) (k : bd m j) (hs : n + m ≤ 900000) : CMulW i j := by
  have h1 : bd (n + 1) i := h.mono (Nat.le_succ _)
  have k1 : bd (m + 1) j := k.mono (Nat.le_succ _)
  exact wide_mul h1 k1 (Nat.succ_pos _) (Nat.succ_pos _) (by omega)
theorem divW_of {n : Nat} {i j : Int} (h : 0 < j) (k : bd n j) (hs : n ≤ 8000) : CDivW i j := wide_div h (k.mono (Nat.le_succ _)) (Nat.succ_pos _) (by omega)
section
variable {P : Program} {w : World} {K : PySem.W.Frag} {mg : Str → Option Value} {base : Heap} {G : Cn} {ta tb tc : TE} {E : XK}
/-! #### add, subtract, scaled -/
abbrev sp_add (K : PySem.W.Frag) : Sp := spF (fun a : Iv × Iv => [PIv K a.1, PIv K a.2]) (fun _ => True) fun a => PIv K (addI a.1 a.2)
theorem g_add {a b : Iv} (ha : EvG ta G (PIv K a)) (hb : EvG tb G (PIv K b)) : EvG (tCall (sp_add K) [] E (tCons ta (tCons tb tNil))) G (PIv K (addI a b)) := g_callF (a, b) trivial (a_cons ha (a_cons hb a_nil))
theorem d_add (T : Tx w K mg) : Df P w K mg base CX0 1 "add" ["a", "b"] (sp_add K) := by
  refine df_F T.F_add T.g_add T.B_add sc_add (fun _ => rfl) (fun a => [some (PIv K a.1), some (PIv K a.2)]) (fun _ => rfl) fun cdv A' outer s H E hr => ⟨_, (pss_one (ps_ret (pe_tup (pa_cons (pe_op op_add (pe_ix ix_tup (pv 0) pe_int (fun _ _ => rfl)) (pe_ix ix_tup (pv 1) pe_int (fun _ _ => rfl))) (pa_cons (pe_op op_add (pe_ix ix_tup (pv 0) pe_int (fun _ _ => rfl)) (pe_ix ix_tup (pv 1) pe_int (fun _ _ => rfl))) pa_nil))))), ?_⟩
  intro a pre B0 z D ok kr kn
  exact st_ret ok (g_tup (a_cons (g_I0 (g_ixT0 (g_var rfl)) (g_ixT0 (g_var rfl))) (a_cons (g_I0 (g_ixT1 (g_var rfl)) (g_ixT1 (g_var rfl))) a_nil))) kr
abbrev sp_subtract (K : PySem.W.Frag) : Sp := spF (fun a : Iv × Iv => [PIv K a.1, PIv K a.2]) (fun _ => True) fun a => PIv K (subI a.1 a.2)
theorem g_subtract {a b : Iv} (ha : EvG ta G (PIv K a)) (hb : EvG tb G (PIv K b)) : EvG (tCall (sp_subtract K) [] E (tCons ta (tCons tb tNil))) G (PIv K (subI a b)) := g_callF (a, b) trivial (a_cons ha (a_cons hb a_nil))
theorem d_subtract (T : Tx w K mg) : Df P w K mg base CX0 1 "subtract" ["a", "b"] (sp_subtract K) := by
  refine df_F T.F_subtract T.g_subtract T.B_subtract sc_subtract (fun _ => rfl) (fun a => [some (PIv K a.1), some (PIv K a.2)]) (fun _ => rfl) fun cdv A' outer s H E hr => ⟨_, (pss_one (ps_ret (pe_tup (pa_cons (pe_op op_sub (pe_ix ix_tup (pv 0) pe_int (fun _ _ => rfl)) (pe_ix ix_tup (pv 1) pe_int (fun _ _ => rfl))) (pa_cons (pe_op op_sub (pe_ix ix_tup (pv 0) pe_int (fun _ _ => rfl)) (pe_ix ix_tup (pv 1) pe_int (fun _ _ => rfl))) pa_nil))))), ?_⟩
  intro a pre B0 z D ok kr kn
  exact st_ret ok (g_tup (a_cons (g_I0 (g_ixT0 (g_var rfl)) (g_ixT1 (g_var rfl))) (a_cons (g_I0 (g_ixT1 (g_var rfl)) (g_ixT0 (g_var rfl))) a_nil))) kr
abbrev sp_scaled (K : PySem.W.Frag) : Sp := spF (fun a : Iv × Int => [PIv K a.1, PI a.2]) (fun a => bI 100000 a.1 ∧ bd 100000 a.2) fun a => PIv K (sclI a.1 a.2)
theorem g_scaled {a : Iv} {n : Int} (ha : EvG ta G (PIv K a)) (hb : EvG tb G (PI n)) (h : bI 100000 a ∧ bd 100000 n) : EvG (tCall (sp_scaled K) [] E (tCons ta (tCons tb tNil))) G (PIv K (sclI a n)) := g_callF (a, n) h (a_cons ha (a_cons hb a_nil))
theorem d_scaled (T : Tx w K mg) : Df P w K mg base CX0 1 "scaled" ["a", "n"] (sp_scaled K) := by
  refine df_F T.F_scaled T.g_scaled T.B_scaled sc_scaled (fun _ => rfl) (fun a => [some (PIv K a.1), some (PI a.2)]) (fun _ => rfl) fun cdv A' outer s H E hr => ⟨_, (pss_cons (ps_if (pt_cmpR op_lt (pv 1) pe_int (nomark _)) (pss_one (ps_ret (pe_tup (pa_cons (pe_op op_mulW (pe_ix ix_tup (pv 0) pe_int (fun _ _ => rfl)) (pv 1)) (pa_cons (pe_op op_mulW (pe_ix ix_tup (pv 0) pe_int (fun _ _ => rfl)) (pv 1)) pa_nil))))) pss_nil)
    (pss_one (ps_ret (pe_tup (pa_cons (pe_op op_mulW (pe_ix ix_tup (pv 0) pe_int (fun _ _ => rfl)) (pv 1)) (pa_cons (pe_op op_mulW (pe_ix ix_tup (pv 0) pe_int (fun _ _ => rfl)) (pv 1)) pa_nil)))))), ?_⟩
  intro a pre B0 z D ok kr kn
  obtain ⟨a, n⟩ := a
  obtain ⟨⟨p1, p2⟩, p3⟩ := pre
  refine sq_if0 ok (t_test (g_I0 (g_var rfl) g_c)) (fun hb H1 ok1 => ?_) fun hb H1 ok1 => ?_
  · refine st_retE ok1 (g_tup (a_cons (g_I (g_ixT1 (g_var rfl)) (g_var rfl) ?_) (a_cons (g_I (g_ixT0 (g_var rfl)) (g_var rfl) ?_) a_nil))) (congrArg (PIv K) (if_pos (of_decide_eq_true hb))) kr
    · exact mulW_of p2 p3 (by decide)
    · exact mulW_of p1 p3 (by decide)
  · refine st_retE ok1 (g_tup (a_cons (g_I (g_ixT0 (g_var rfl)) (g_var rfl) ?_) (a_cons (g_I (g_ixT1 (g_var rfl)) (g_var rfl) ?_) a_nil))) (congrArg (PIv K) (if_neg (of_decide_eq_false hb))) kr
    · exact mulW_of p1 p3 (by decide)
    · exact mulW_of p2 p3 (by decide)
/-! #### multiply, square, quotient, root -/
abbrev sp_multiply (K : PySem.W.Frag) : Sp := spF (fun a : Iv × Iv => [PIv K a.1, PIv K a.2]) (fun a => sml a.1 ∧ sml a.2) fun a => PIv K (mulI a.1 a.2)
theorem g_multiply {a b : Iv} (ha : EvG ta G (PIv K a)) (hb : EvG tb G (PIv K b)) (h : sml a ∧ sml b) : EvG (tCall (sp_multiply K) [] E (tCons ta (tCons tb tNil))) G (PIv K (mulI a b)) := g_callF (a, b) h (a_cons ha (a_cons hb a_nil))
theorem d_multiply (T : Tx w K mg) : Df P w K mg base CX0 1 "multiply" ["a", "b"] (sp_multiply K) := by
  refine df_F T.F_multiply T.g_multiply T.B_multiply sc_multiply (fun _ => rfl) (fun a => [some (PIv K a.1), some (PIv K a.2), none]) (fun _ => rfl) fun cdv A' outer s H E hr => ⟨_, (pss_cons (ps_set (i := 2) sc_multiply.nd rfl (by first | exact Or.inl rfl | exact Or.inr rfl) (pe_lst (pa_cons (pe_op op_mulW (pe_ix ix_tup (pv 0) pe_int (fun _ _ => rfl)) (pe_ix ix_tup (pv 1) pe_int (fun _ _ => rfl))) (pa_cons (pe_op op_mulW (pe_ix ix_tup (pv 0) pe_int (fun _ _ => rfl)) (pe_ix ix_tup (pv 1) pe_int (fun _ _ => rfl))) (pa_cons (pe_op op_mulW (pe_ix ix_tup (pv 0) pe_int (fun _ _ => rfl)) (pe_ix ix_tup (pv 1) pe_int (fun _ _ => rfl))) (pa_cons (pe_op op_mulW (pe_ix ix_tup (pv 0) pe_int (fun _ _ => rfl)) (pe_ix ix_tup (pv 1) pe_int (fun _ _ => rfl))) pa_nil))))))
    (pss_one (ps_ret (pe_tup (pa_cons (pe_callB (cr_min rfl) rfl T.n_min (by decide +kernel) (pa_cons (pv 2) pa_nil)) (pa_cons (pe_callB (cr_max rfl) rfl T.n_max (by decide +kernel) (pa_cons (pv 2) pa_nil)) pa_nil)))))), ?_⟩
  intro a pre B0 z D ok kr kn
  obtain ⟨⟨p1, p2⟩, q1, q2⟩ := pre
  refine sq_asg ok (g_lst (a_cons (g_I (g_ixT0 (g_var rfl)) (g_ixT0 (g_var rfl)) ?_) (a_cons (g_I (g_ixT0 (g_var rfl)) (g_ixT1 (g_var rfl)) ?_) (a_cons (g_I (g_ixT1 (g_var rfl)) (g_ixT0 (g_var rfl)) ?_) (a_cons (g_I (g_ixT1 (g_var rfl)) (g_ixT1 (g_var rfl)) ?_) a_nil))))) fun z1 H1 ok1 => ?_
  · exact mulW_of p1 q1 (by decide)
  · exact mulW_of p1 q2 (by decide)
  · exact mulW_of p2 q1 (by decide)
  · exact mulW_of p2 q2 (by decide)
  exact st_ret ok1 (g_tup (a_cons (g_cb (a_cons (g_var rfl) a_nil) r_min4) (a_cons (g_cb (a_cons (g_var rfl) a_nil) r_max4) a_nil))) kr
abbrev sp_square (K : PySem.W.Frag) : Sp := spF (fun a : Iv => [PIv K a]) (fun a => sml a) fun a => PIv K (sqrI a)
theorem g_square {a : Iv} (ha : EvG ta G (PIv K a)) (h : sml a) : EvG (tCall (sp_square K) [] E (tCons ta tNil)) G (PIv K (sqrI a)) := g_callF a h (a_cons ha a_nil)
theorem d_square (T : Tx w K mg) : Df P w K mg base CX0 1 "square" ["a"] (sp_square K) := by
  refine df_F T.F_square T.g_square T.B_square sc_square (fun _ => rfl) (fun a => [some (PIv K a)]) (fun _ => rfl) fun cdv A' outer s H E hr => ⟨_, (pss_cons (ps_if (pt_cmpR op_ge (pe_ix ix_tup (pv 0) pe_int (fun _ _ => rfl)) pe_int (nomark _)) (pss_one (ps_ret (pe_tup (pa_cons (pe_op op_mulW (pe_ix ix_tup (pv 0) pe_int (fun _ _ => rfl)) (pe_ix ix_tup (pv 0) pe_int (fun _ _ => rfl))) (pa_cons (pe_op op_mulW (pe_ix ix_tup (pv 0) pe_int (fun _ _ => rfl)) (pe_ix ix_tup (pv 0) pe_int (fun _ _ => rfl))) pa_nil))))) pss_nil)
    (pss_cons (ps_if (pt_cmpR op_le (pe_ix ix_tup (pv 0) pe_int (fun _ _ => rfl)) pe_int (nomark _)) (pss_one (ps_ret (pe_tup (pa_cons (pe_op op_mulW (pe_ix ix_tup (pv 0) pe_int (fun _ _ => rfl)) (pe_ix ix_tup (pv 0) pe_int (fun _ _ => rfl))) (pa_cons (pe_op op_mulW (pe_ix ix_tup (pv 0) pe_int (fun _ _ => rfl)) (pe_ix ix_tup (pv 0) pe_int (fun _ _ => rfl))) pa_nil))))) pss_nil)
    (pss_one (ps_ret (pe_tup (pa_cons pe_int (pa_cons (pe_callB (call_max2 rfl) rfl T.n_max (by decide +kernel) (pa_cons (pe_op op_mulW (pe_ix ix_tup (pv 0) pe_int (fun _ _ => rfl)) (pe_ix ix_tup (pv 0) pe_int (fun _ _ => rfl))) (pa_cons (pe_op op_mulW (pe_ix ix_tup (pv 0) pe_int (fun _ _ => rfl)) (pe_ix ix_tup (pv 0) pe_int (fun _ _ => rfl))) pa_nil))) pa_nil))))))), ?_⟩
  intro a pre B0 z D ok kr kn
  obtain ⟨p1, p2⟩ := pre
  have m11 : CMulW a.1 a.1 := mulW_of p1 p1 (by decide)
  have m22 : CMulW a.2 a.2 := mulW_of p2 p2 (by decide)
  refine sq_if0 ok (t_test (g_I0 (g_ixT0 (g_var rfl)) g_c)) (fun hb H1 ok1 => ?_) fun hb H1 ok1 => ?_
  · refine st_retE ok1 ((g_tup (a_cons (g_I (g_ixT0 (g_var rfl)) (g_ixT0 (g_var rfl)) ?_) (a_cons (g_I (g_ixT1 (g_var rfl)) (g_ixT1 (g_var rfl)) ?_) a_nil)))) (congrArg (PIv K) (if_pos (of_decide_eq_true hb))) kr
    all_goals assumption
  · refine sq_if0 ok1 (t_test (g_I0 (g_ixT1 (g_var rfl)) g_c)) (fun hc H2 ok2 => ?_) fun hc H2 ok2 => ?_
    · refine st_retE ok2 ((g_tup (a_cons (g_I (g_ixT1 (g_var rfl)) (g_ixT1 (g_var rfl)) ?_) (a_cons (g_I (g_ixT0 (g_var rfl)) (g_ixT0 (g_var rfl)) ?_) a_nil)))) (congrArg (PIv K) ((if_neg (of_decide_eq_false hb)).trans (if_pos (of_decide_eq_true hc)))) kr
      all_goals assumption
    · refine st_retE ok2 ((g_tup (a_cons g_c (a_cons (g_cb (a_cons (g_I (g_ixT0 (g_var rfl)) (g_ixT0 (g_var rfl)) ?_) (a_cons (g_I (g_ixT1 (g_var rfl)) (g_ixT1 (g_var rfl)) ?_) a_nil)) r_max2) a_nil)))) (congrArg (PIv K) ((if_neg (of_decide_eq_false hb)).trans (if_neg (of_decide_eq_false hc)))) kr
      all_goals assumption
abbrev sp_quotient (K : PySem.W.Frag) : Sp := spF (fun a : Iv × Iv => [PIv K a.1, PIv K a.2]) (fun a => 0 < a.2.1 ∧ 0 < a.2.2 ∧ bI 8000 a.2) fun a => PIv K (quoI a.1 a.2)
theorem g_quotient {a b : Iv} (ha : EvG ta G (PIv K a)) (hb : EvG tb G (PIv K b)) (h : 0 < b.1 ∧ 0 < b.2 ∧ bI 8000 b) : EvG (tCall (sp_quotient K) [] E (tCons ta (tCons tb tNil))) G (PIv K (quoI a b)) := g_callF (a, b) h (a_cons ha (a_cons hb a_nil))
theorem d_quotient (T : Tx w K mg) : Df P w K mg base CX0 1 "quotient" ["a", "d"] (sp_quotient K) := by
  refine df_F T.F_quotient T.g_quotient T.B_quotient sc_quotient (fun _ => rfl) (fun a => [some (PIv K a.1), some (PIv K a.2), none]) (fun _ => rfl) fun cdv A' outer s H E hr => ⟨_, (pss_cons (ps_set (i := 2) sc_quotient.nd rfl (by first | exact Or.inl rfl | exact Or.inr rfl) (pe_callB (call_min2 rfl) rfl T.n_min (by decide +kernel) (pa_cons (pe_op op_fdivW (pe_ix ix_tup (pv 0) pe_int (fun _ _ => rfl)) (pe_ix ix_tup (pv 1) pe_int (fun _ _ => rfl))) (pa_cons (pe_op op_fdivW (pe_ix ix_tup (pv 0) pe_int (fun _ _ => rfl)) (pe_ix ix_tup (pv 1) pe_int (fun _ _ => rfl))) pa_nil))))
    (pss_one (ps_ret (pe_tup (pa_cons (pv 2) (pa_cons (pe_callB (call_max2 rfl) rfl T.n_max (by decide +kernel) (pa_cons (pe_op op_fdivW (pe_ix ix_tup (pv 0) pe_int (fun _ _ => rfl)) (pe_ix ix_tup (pv 1) pe_int (fun _ _ => rfl))) (pa_cons (pe_op op_fdivW (pe_ix ix_tup (pv 0) pe_int (fun _ _ => rfl)) (pe_ix ix_tup (pv 1) pe_int (fun _ _ => rfl))) pa_nil))) pa_nil)))))), ?_⟩
  intro a pre B0 z D ok kr kn
  obtain ⟨p1, p2, q1, q2⟩ := pre
  have m1 : ∀ i : Int, CDivW i a.2.1 := fun i => divW_of p1 q1 (by decide)
  have m2 : ∀ i : Int, CDivW i a.2.2 := fun i => divW_of p2 q2 (by decide)
  refine sq_asg ok ((g_cb (a_cons (g_I (g_ixT0 (g_var rfl)) (g_ixT0 (g_var rfl)) ?_) (a_cons (g_I (g_ixT0 (g_var rfl)) (g_ixT1 (g_var rfl)) ?_) a_nil)) r_min2)) fun z1 H1 ok1 => ?_
  · exact m1 _
  · exact m2 _
  refine st_ret ok1 ((g_tup (a_cons (g_var rfl) (a_cons (g_cb (a_cons (g_I (g_ixT1 (g_var rfl)) (g_ixT0 (g_var rfl)) ?_) (a_cons (g_I (g_ixT1 (g_var rfl)) (g_ixT1 (g_var rfl)) ?_) a_nil)) r_max2) a_nil)))) kr
  · exact m1 _
  · exact m2 _
abbrev sp_root (K : PySem.W.Frag) : Sp := spF (fun a : Iv => [PIv K a]) (fun a => bI 8000 a ∧ 0 ≤ a.2) fun a => PIv K (rootI a)
theorem g_root {a : Iv} (ha : EvG ta G (PIv K a)) (h : bI 8000 a ∧ 0 ≤ a.2) : EvG (tCall (sp_root K) [] E (tCons ta tNil)) G (PIv K (rootI a)) := g_callF a h (a_cons ha a_nil)
theorem log_of {n : Nat} {i : Int} (h : bd n i) (hs : n ≤ 8000) : i.natAbs.log2 ≤ 13000 := by
  have h1 := PySem.Flt.log2_lt_of (Nat.succ_pos n) (h.mono (Nat.le_succ n))
  omega
theorem d_root (T : Tx w K mg) : Df P w K mg base CX0 1 "root" ["a"] (sp_root K) := by
  refine df_F T.F_root T.g_root T.B_root sc_root (fun _ => rfl) (fun a => [some (PIv K a)]) (fun _ => rfl) fun cdv A' outer s H E hr => ⟨_, (pss_one (ps_ret (pe_tup (pa_cons (pe_callBfun cr_isqrt rfl T.g_isqrt (pa_cons (pe_callB (call_max2 rfl) rfl T.n_max (by decide +kernel) (pa_cons (pe_ix ix_tup (pv 0) pe_int (fun _ _ => rfl)) (pa_cons pe_int pa_nil))) pa_nil)) (pa_cons (pe_callBfun cr_isqrt rfl T.g_isqrt (pa_cons (pe_ix ix_tup (pv 0) pe_int (fun _ _ => rfl)) pa_nil)) pa_nil))))), ?_⟩
  intro a pre B0 z D ok kr kn
  obtain ⟨⟨p1, p2⟩, p3⟩ := pre
  refine st_ret ok ((g_tup (a_cons (g_cb (a_cons (g_cb (a_cons (g_ixT0 (g_var rfl)) (a_cons g_c a_nil)) r_max2) a_nil) (r_isq ?_ ?_)) (a_cons (g_cb (a_cons (g_ixT1 (g_var rfl)) a_nil) (r_isq ?_ ?_)) a_nil)))) kr
  · exact mx_r _ _
  · exact log_of (p1.mx bd0) (by decide)
  · exact p3
  · exact log_of p2 (by decide)
/-! #### meet, hull, widened, middle, width, size -/
abbrev sp_meet (K : PySem.W.Frag) : Sp := spF (fun a : Iv × Iv => [PIv K a.1, PIv K a.2]) (fun _ => True) fun a => popt (meetI a.1 a.2) (PIv K)
theorem g_meet {a b : Iv} (ha : EvG ta G (PIv K a)) (hb : EvG tb G (PIv K b)) : EvG (tCall (sp_meet K) [] E (tCons ta (tCons tb tNil))) G (popt (meetI a b) (PIv K)) := g_callF (res := fun a : Iv × Iv => popt (meetI a.1 a.2) (PIv K)) (a, b) trivial (a_cons ha (a_cons hb a_nil))
theorem d_meet (T : Tx w K mg) : Df P w K mg base CX0 1 "meet" ["a", "b"] (sp_meet K) := by
  refine df_F T.F_meet T.g_meet T.B_meet sc_meet (fun _ => rfl) (fun a => [some (PIv K a.1), some (PIv K a.2), none, none]) (fun _ => rfl) fun cdv A' outer s H E hr => ⟨_, (pss_cons (ps_set (i := 2) sc_meet.nd rfl (by first | exact Or.inl rfl | exact Or.inr rfl) (pe_callB (call_max2 rfl) rfl T.n_max (by decide +kernel) (pa_cons (pe_ix ix_tup (pv 0) pe_int (fun _ _ => rfl)) (pa_cons (pe_ix ix_tup (pv 1) pe_int (fun _ _ => rfl)) pa_nil))))
    (pss_cons (ps_set (i := 3) sc_meet.nd rfl (by first | exact Or.inl rfl | exact Or.inr rfl) (pe_callB (call_min2 rfl) rfl T.n_min (by decide +kernel) (pa_cons (pe_ix ix_tup (pv 0) pe_int (fun _ _ => rfl)) (pa_cons (pe_ix ix_tup (pv 1) pe_int (fun _ _ => rfl)) pa_nil))))
    (pss_cons (ps_if (pt_cmpR op_gt (pv 2) (pv 3) (nomark _)) (pss_one (ps_ret pe_non)) pss_nil)
    (pss_one (ps_ret (pe_tup (pa_cons (pv 2) (pa_cons (pv 3) pa_nil)))))))), ?_⟩
  intro a pre B0 z D ok kr kn
  refine sq_asg ok ((g_cb (a_cons (g_ixT0 (g_var rfl)) (a_cons (g_ixT0 (g_var rfl)) a_nil)) r_max2)) fun z1 H1 ok1 => ?_
  refine sq_asg ok1 ((g_cb (a_cons (g_ixT1 (g_var rfl)) (a_cons (g_ixT1 (g_var rfl)) a_nil)) r_min2)) fun z2 H2 ok2 => ?_
  refine sq_if0 ok2 (t_test (g_I0 (g_var rfl) (g_var rfl))) (fun hb H3 ok3 => ?_) fun hb H3 ok3 => ?_
  · exact st_retE ok3 g_c (congrArg (fun o => popt o (PIv K)) (if_pos (of_decide_eq_true hb))) kr
  · exact st_retE ok3 ((g_tup (a_cons (g_var rfl) (a_cons (g_var rfl) a_nil)))) (congrArg (fun o => popt o (PIv K)) (if_neg (of_decide_eq_false hb))) kr
abbrev sp_hull (K : PySem.W.Frag) : Sp := spF (fun a : Iv × Iv => [PIv K a.1, PIv K a.2]) (fun _ => True) fun a => PIv K (hullI a.1 a.2)
theorem g_hull {a b : Iv} (ha : EvG ta G (PIv K a)) (hb : EvG tb G (PIv K b)) : EvG (tCall (sp_hull K) [] E (tCons ta (tCons tb tNil))) G (PIv K (hullI a b)) := g_callF (a, b) trivial (a_cons ha (a_cons hb a_nil))
theorem d_hull (T : Tx w K mg) : Df P w K mg base CX0 1 "hull" ["a", "b"] (sp_hull K) := by
  refine df_F T.F_hull T.g_hull T.B_hull sc_hull (fun _ => rfl) (fun a => [some (PIv K a.1), some (PIv K a.2)]) (fun _ => rfl) fun cdv A' outer s H E hr => ⟨_, (pss_one (ps_ret (pe_tup (pa_cons (pe_callB (call_min2 rfl) rfl T.n_min (by decide +kernel) (pa_cons (pe_ix ix_tup (pv 0) pe_int (fun _ _ => rfl)) (pa_cons (pe_ix ix_tup (pv 1) pe_int (fun _ _ => rfl)) pa_nil))) (pa_cons (pe_callB (call_max2 rfl) rfl T.n_max (by decide +kernel) (pa_cons (pe_ix ix_tup (pv 0) pe_int (fun _ _ => rfl)) (pa_cons (pe_ix ix_tup (pv 1) pe_int (fun _ _ => rfl)) pa_nil))) pa_nil))))), ?_⟩
  intro a pre B0 z D ok kr kn
  exact st_ret ok (g_tup (a_cons (g_cb (a_cons (g_ixT0 (g_var rfl)) (a_cons (g_ixT0 (g_var rfl)) a_nil)) r_min2) (a_cons (g_cb (a_cons (g_ixT1 (g_var rfl)) (a_cons (g_ixT1 (g_var rfl)) a_nil)) r_max2) a_nil))) kr
abbrev sp_widened (K : PySem.W.Frag) : Sp := spF (fun a : Iv × Int => [PIv K a.1, PI a.2]) (fun _ => True) fun a => PIv K (widI a.1 a.2)
theorem g_widened {a : Iv} {n : Int} (ha : EvG ta G (PIv K a)) (hb : EvG tb G (PI n)) : EvG (tCall (sp_widened K) [] E (tCons ta (tCons tb tNil))) G (PIv K (widI a n)) := g_callF (a, n) trivial (a_cons ha (a_cons hb a_nil))
theorem d_widened (T : Tx w K mg) : Df P w K mg base CX0 1 "widened" ["a", "w"] (sp_widened K) := by
  refine df_F T.F_widened T.g_widened T.B_widened sc_widened (fun _ => rfl) (fun a => [some (PIv K a.1), some (PI a.2)]) (fun _ => rfl) fun cdv A' outer s H E hr => ⟨_, (pss_one (ps_ret (pe_tup (pa_cons (pe_op op_sub (pe_ix ix_tup (pv 0) pe_int (fun _ _ => rfl)) (pv 1)) (pa_cons (pe_op op_add (pe_ix ix_tup (pv 0) pe_int (fun _ _ => rfl)) (pv 1)) pa_nil))))), ?_⟩
  intro a pre B0 z D ok kr kn
  exact st_ret ok (g_tup (a_cons (g_I0 (g_ixT0 (g_var rfl)) (g_var rfl)) (a_cons (g_I0 (g_ixT1 (g_var rfl)) (g_var rfl)) a_nil))) kr
abbrev sp_middle (K : PySem.W.Frag) : Sp := spF (fun a : Iv => [PIv K a]) (fun _ => True) fun a => PI (midI a)
theorem g_middle {a : Iv} (ha : EvG ta G (PIv K a)) : EvG (tCall (sp_middle K) [] E (tCons ta tNil)) G (PI (midI a)) := g_callF a trivial (a_cons ha a_nil)
theorem d_middle (T : Tx w K mg) : Df P w K mg base CX0 1 "middle" ["a"] (sp_middle K) := by
  refine df_F T.F_middle T.g_middle T.B_middle sc_middle (fun _ => rfl) (fun a => [some (PIv K a)]) (fun _ => rfl) fun cdv A' outer s H E hr => ⟨_, (pss_one (ps_ret (pe_op op_fdivW (pe_op op_add (pe_ix ix_tup (pv 0) pe_int (fun _ _ => rfl)) (pe_ix ix_tup (pv 0) pe_int (fun _ _ => rfl))) pe_int))), ?_⟩
  intro a pre B0 z D ok kr kn
  exact st_ret ok (g_I (g_I0 (g_ixT0 (g_var rfl)) (g_ixT1 (g_var rfl))) g_c (wide_div (b := 2) (by decide) (by decide) (by decide) (by decide))) kr
abbrev sp_width (K : PySem.W.Frag) : Sp := spF (fun a : Iv => [PIv K a]) (fun _ => True) fun a => PI (wdI a)
theorem g_width {a : Iv} (ha : EvG ta G (PIv K a)) : EvG (tCall (sp_width K) [] E (tCons ta tNil)) G (PI (wdI a)) := g_callF a trivial (a_cons ha a_nil)
theorem d_width (T : Tx w K mg) : Df P w K mg base CX0 1 "width" ["a"] (sp_width K) := by
  refine df_F T.F_width T.g_width T.B_width sc_width (fun _ => rfl) (fun a => [some (PIv K a)]) (fun _ => rfl) fun cdv A' outer s H E hr => ⟨_, (pss_one (ps_ret (pe_op op_sub (pe_ix ix_tup (pv 0) pe_int (fun _ _ => rfl)) (pe_ix ix_tup (pv 0) pe_int (fun _ _ => rfl))))), ?_⟩
  intro a pre B0 z D ok kr kn
  exact st_ret ok (g_I0 (g_ixT1 (g_var rfl)) (g_ixT0 (g_var rfl))) kr
abbrev sp_size (K : PySem.W.Frag) : Sp := spF (fun a : Iv => [PIv K a]) (fun _ => True) fun a => PI (szI a)
theorem g_size {a : Iv} (ha : EvG ta G (PIv K a)) : EvG (tCall (sp_size K) [] E (tCons ta tNil)) G (PI (szI a)) := g_callF a trivial (a_cons ha a_nil)
theorem d_size (T : Tx w K mg) : Df P w K mg base CX0 1 "size" ["a"] (sp_size K) := by
  refine df_F T.F_size T.g_size T.B_size sc_size (fun _ => rfl) (fun a => [some (PIv K a)]) (fun _ => rfl) fun cdv A' outer s H E hr => ⟨_, (pss_one (ps_ret (pe_callB (call_max2 rfl) rfl T.n_max (by decide +kernel) (pa_cons (pe_callB call_abs rfl T.n_abs (by decide +kernel) (pa_cons (pe_ix ix_tup (pv 0) pe_int (fun _ _ => rfl)) pa_nil)) (pa_cons (pe_callB call_abs rfl T.n_abs (by decide +kernel) (pa_cons (pe_ix ix_tup (pv 0) pe_int (fun _ _ => rfl)) pa_nil)) pa_nil))))), ?_⟩
  intro a pre B0 z D ok kr kn
  exact st_ret ok (g_cb (a_cons (g_cb (a_cons (g_ixT0 (g_var rfl)) a_nil) r_abs) (a_cons (g_cb (a_cons (g_ixT1 (g_var rfl)) a_nil) r_abs) a_nil)) r_max2) kr
/-! #### boxes -/
abbrev sp_box_add (K : PySem.W.Frag) : Sp := spF (fun a : Box × Box => [PBox K a.1, PBox K a.2]) (fun _ => True) fun a => PBox K (addB a.1 a.2)
theorem g_box_add {a b : Box} (ha : EvG ta G (PBox K a)) (hb : EvG tb G (PBox K b)) : EvG (tCall (sp_box_add K) [] E (tCons ta (tCons tb tNil))) G (PBox K (addB a b)) := g_callF (a, b) trivial (a_cons ha (a_cons hb a_nil))
theorem d_box_add (T : Tx w K mg) : Df P w K mg base CX0 2 "box_add" ["a", "b"] (sp_box_add K) := by
  have G_add := d_add (P := P) (base := base) T
  refine df_F T.F_box_add T.g_box_add T.B_box_add sc_box_add (fun _ => rfl) (fun a => [some (PBox K a.1), some (PBox K a.2)]) (fun _ => rfl) fun cdv A' outer s H E hr => ⟨_, (pss_one (ps_ret (pe_tup (pa_cons (pe_d G_add hr (pa_cons (pe_ix ix_tup (pv 0) pe_int (fun _ _ => rfl)) (pa_cons (pe_ix ix_tup (pv 1) pe_int (fun _ _ => rfl)) pa_nil))) (pa_cons (pe_d G_add hr (pa_cons (pe_ix ix_tup (pv 0) pe_int (fun _ _ => rfl)) (pa_cons (pe_ix ix_tup (pv 1) pe_int (fun _ _ => rfl)) pa_nil))) (pa_cons (pe_d G_add hr (pa_cons (pe_ix ix_tup (pv 0) pe_int (fun _ _ => rfl)) (pa_cons (pe_ix ix_tup (pv 1) pe_int (fun _ _ => rfl)) pa_nil))) pa_nil)))))), ?_⟩
  intro a pre B0 z D ok kr kn
  exact st_ret ok (g_tup (a_cons (g_add (g_ixT0 (g_var rfl)) (g_ixT0 (g_var rfl))) (a_cons (g_add (g_ixT1 (g_var rfl)) (g_ixT1 (g_var rfl))) (a_cons (g_add (g_ixT2 (g_var rfl)) (g_ixT2 (g_var rfl))) a_nil)))) kr
abbrev sp_box_hull (K : PySem.W.Frag) : Sp := spF (fun a : Box × Box => [PBox K a.1, PBox K a.2]) (fun _ => True) fun a => PBox K (hullB a.1 a.2)
theorem g_box_hull {a b : Box} (ha : EvG ta G (PBox K a)) (hb : EvG tb G (PBox K b)) : EvG (tCall (sp_box_hull K) [] E (tCons ta (tCons tb tNil))) G (PBox K (hullB a b)) := g_callF (a, b) trivial (a_cons ha (a_cons hb a_nil))
theorem d_box_hull (T : Tx w K mg) : Df P w K mg base CX0 2 "box_hull" ["a", "b"] (sp_box_hull K) := by
  have G_hull := d_hull (P := P) (base := base) T
  refine df_F T.F_box_hull T.g_box_hull T.B_box_hull sc_box_hull (fun _ => rfl) (fun a => [some (PBox K a.1), some (PBox K a.2)]) (fun _ => rfl) fun cdv A' outer s H E hr => ⟨_, (pss_one (ps_ret (pe_tup (pa_cons (pe_d G_hull hr (pa_cons (pe_ix ix_tup (pv 0) pe_int (fun _ _ => rfl)) (pa_cons (pe_ix ix_tup (pv 1) pe_int (fun _ _ => rfl)) pa_nil))) (pa_cons (pe_d G_hull hr (pa_cons (pe_ix ix_tup (pv 0) pe_int (fun _ _ => rfl)) (pa_cons (pe_ix ix_tup (pv 1) pe_int (fun _ _ => rfl)) pa_nil))) (pa_cons (pe_d G_hull hr (pa_cons (pe_ix ix_tup (pv 0) pe_int (fun _ _ => rfl)) (pa_cons (pe_ix ix_tup (pv 1) pe_int (fun _ _ => rfl)) pa_nil))) pa_nil)))))), ?_⟩
  intro a pre B0 z D ok kr kn
  exact st_ret ok (g_tup (a_cons (g_hull (g_ixT0 (g_var rfl)) (g_ixT0 (g_var rfl))) (a_cons (g_hull (g_ixT1 (g_var rfl)) (g_ixT1 (g_var rfl))) (a_cons (g_hull (g_ixT2 (g_var rfl)) (g_ixT2 (g_var rfl))) a_nil)))) kr
abbrev sp_box_widened (K : PySem.W.Frag) : Sp := spF (fun a : Box × Int => [PBox K a.1, PI a.2]) (fun _ => True) fun a => PBox K (widB a.1 a.2)
theorem g_box_widened {a : Box} {n : Int} (ha : EvG ta G (PBox K a)) (hb : EvG tb G (PI n)) : EvG (tCall (sp_box_widened K) [] E (tCons ta (tCons tb tNil))) G (PBox K (widB a n)) := g_callF (a, n) trivial (a_cons ha (a_cons hb a_nil))
theorem d_box_widened (T : Tx w K mg) : Df P w K mg base CX0 2 "box_widened" ["a", "w"] (sp_box_widened K) := by
  have G_widened := d_widened (P := P) (base := base) T
  refine df_F T.F_box_widened T.g_box_widened T.B_box_widened sc_box_widened (fun _ => rfl) (fun a => [some (PBox K a.1), some (PI a.2)]) (fun _ => rfl) fun cdv A' outer s H E hr => ⟨_, (pss_one (ps_ret (pe_tup (pa_cons (pe_d G_widened hr (pa_cons (pe_ix ix_tup (pv 0) pe_int (fun _ _ => rfl)) (pa_cons (pv 1) pa_nil))) (pa_cons (pe_d G_widened hr (pa_cons (pe_ix ix_tup (pv 0) pe_int (fun _ _ => rfl)) (pa_cons (pv 1) pa_nil))) (pa_cons (pe_d G_widened hr (pa_cons (pe_ix ix_tup (pv 0) pe_int (fun _ _ => rfl)) (pa_cons (pv 1) pa_nil))) pa_nil)))))), ?_⟩
  intro a pre B0 z D ok kr kn
  exact st_ret ok (g_tup (a_cons (g_widened (g_ixT0 (g_var rfl)) (g_var rfl)) (a_cons (g_widened (g_ixT1 (g_var rfl)) (g_var rfl)) (a_cons (g_widened (g_ixT2 (g_var rfl)) (g_var rfl)) a_nil)))) kr
abbrev sp_box_size (K : PySem.W.Frag) : Sp := spF (fun a : Box => [PBox K a]) (fun _ => True) fun a => PI (szB a)
theorem g_box_size {a : Box} (ha : EvG ta G (PBox K a)) : EvG (tCall (sp_box_size K) [] E (tCons ta tNil)) G (PI (szB a)) := g_callF a trivial (a_cons ha a_nil)
theorem d_box_size (T : Tx w K mg) : Df P w K mg base CX0 2 "box_size" ["box"] (sp_box_size K) := by
  have G_size := d_size (P := P) (base := base) T
  refine df_F T.F_box_size T.g_box_size T.B_box_size sc_box_size (fun _ => rfl) (fun a => [some (PBox K a)]) (fun _ => rfl) fun cdv A' outer s H E hr => ⟨_, (pss_one (ps_ret (pe_callB (call_max3 rfl) rfl T.n_max (by decide +kernel) (pa_cons (pe_d G_size hr (pa_cons (pe_ix ix_tup (pv 0) pe_int (fun _ _ => rfl)) pa_nil)) (pa_cons (pe_d G_size hr (pa_cons (pe_ix ix_tup (pv 0) pe_int (fun _ _ => rfl)) pa_nil)) (pa_cons (pe_d G_size hr (pa_cons (pe_ix ix_tup (pv 0) pe_int (fun _ _ => rfl)) pa_nil)) pa_nil)))))), ?_⟩
  intro a pre B0 z D ok kr kn
  exact st_ret ok (g_cb (a_cons (g_size (g_ixT0 (g_var rfl))) (a_cons (g_size (g_ixT1 (g_var rfl))) (a_cons (g_size (g_ixT2 (g_var rfl))) a_nil))) r_max3) kr
abbrev sp_square_length (K : PySem.W.Frag) : Sp := spF (fun a : Box => [PBox K a]) (fun a => bB 100000 a) fun a => PIv K (sqlB a)
theorem g_square_length {a : Box} (ha : EvG ta G (PBox K a)) (h : bB 100000 a) : EvG (tCall (sp_square_length K) [] E (tCons ta tNil)) G (PIv K (sqlB a)) := g_callF a h (a_cons ha a_nil)
theorem d_square_length (T : Tx w K mg) : Df P w K mg base CX0 2 "square_length" ["box"] (sp_square_length K) := by
  have G_add := d_add (P := P) (base := base) T
  have G_square := d_square (P := P) (base := base) T
  refine df_F T.F_square_length T.g_square_length T.B_square_length sc_square_length (fun _ => rfl) (fun a => [some (PBox K a)]) (fun _ => rfl) fun cdv A' outer s H E hr => ⟨_, (pss_one (ps_ret (pe_d G_add hr (pa_cons (pe_d G_add hr (pa_cons (pe_d G_square hr (pa_cons (pe_ix ix_tup (pv 0) pe_int (fun _ _ => rfl)) pa_nil)) (pa_cons (pe_d G_square hr (pa_cons (pe_ix ix_tup (pv 0) pe_int (fun _ _ => rfl)) pa_nil)) pa_nil))) (pa_cons (pe_d G_square hr (pa_cons (pe_ix ix_tup (pv 0) pe_int (fun _ _ => rfl)) pa_nil)) pa_nil))))), ?_⟩
  intro a pre B0 z D ok kr kn
  exact st_ret ok (g_add (g_add (g_square (g_ixT0 (g_var rfl)) pre.1) (g_square (g_ixT1 (g_var rfl)) pre.2.1)) (g_square (g_ixT2 (g_var rfl)) pre.2.2)) kr
abbrev sp_box_meet (K : PySem.W.Frag) : Sp := spF (fun a : Box × Box => [PBox K a.1, PBox K a.2]) (fun _ => True) fun a => popt (meetB a.1 a.2) (PBox K)
theorem g_box_meet {a b : Box} (ha : EvG ta G (PBox K a)) (hb : EvG tb G (PBox K b)) : EvG (tCall (sp_box_meet K) [] E (tCons ta (tCons tb tNil))) G (popt (meetB a b) (PBox K)) := g_callF (res := fun a : Box × Box => popt (meetB a.1 a.2) (PBox K)) (a, b) trivial (a_cons ha (a_cons hb a_nil))
theorem popt_non {A : Type} {o : Option A} {ds : A → List Dn} {H : Hp} {v : V} (h : (popt o fun x => PT K (ds x)).holds H v) : decide (v = .non) = o.isNone := by
  cases o with
  | none => exact pn_non h
  | some x => exact pt_non h
theorem d_box_meet (T : Tx w K mg) : Df P w K mg base CX0 2 "box_meet" ["a", "b"] (sp_box_meet K) := by
  have G_meet := d_meet (P := P) (base := base) T
  refine df_F T.F_box_meet T.g_box_meet T.B_box_meet sc_box_meet (fun _ => rfl) (fun a => [some (PBox K a.1), some (PBox K a.2), none, none, none]) (fun _ => rfl) fun cdv A' outer s H E hr => ⟨_, (pss_cons (ps_set (i := 2) sc_box_meet.nd rfl (by first | exact Or.inl rfl | exact Or.inr rfl) (pe_d G_meet hr (pa_cons (pe_ix ix_tup (pv 0) pe_int (fun _ _ => rfl)) (pa_cons (pe_ix ix_tup (pv 1) pe_int (fun _ _ => rfl)) pa_nil))))
    (pss_cons (ps_set (i := 3) sc_box_meet.nd rfl (by first | exact Or.inl rfl | exact Or.inr rfl) (pe_d G_meet hr (pa_cons (pe_ix ix_tup (pv 0) pe_int (fun _ _ => rfl)) (pa_cons (pe_ix ix_tup (pv 1) pe_int (fun _ _ => rfl)) pa_nil))))
    (pss_cons (ps_set (i := 4) sc_box_meet.nd rfl (by first | exact Or.inl rfl | exact Or.inr rfl) (pe_d G_meet hr (pa_cons (pe_ix ix_tup (pv 0) pe_int (fun _ _ => rfl)) (pa_cons (pe_ix ix_tup (pv 1) pe_int (fun _ _ => rfl)) pa_nil))))
    (pss_cons (ps_if (PW.pt (pw_or (pt_cmpR op_isN (pv 2) pe_non (nomark _)) (pw_or (pt_cmpR op_isN (pv 3) pe_non (nomark _)) (pw_or1 (pt_cmpR op_isN (pv 4) pe_non (nomark _)))))) (pss_one (ps_ret pe_non)) pss_nil)
    (pss_one (ps_ret (pe_tup (pa_cons (pv 2) (pa_cons (pv 3) (pa_cons (pv 4) pa_nil)))))))))), ?_⟩
  intro a pre B0 z D ok kr kn
  refine sq_asg ok ((g_meet (g_ixT0 (g_var rfl)) (g_ixT0 (g_var rfl)))) fun z1 H1 ok1 => ?_
  refine sq_asg ok1 ((g_meet (g_ixT1 (g_var rfl)) (g_ixT1 (g_var rfl)))) fun z2 H2 ok2 => ?_
  refine sq_asg ok2 ((g_meet (g_ixT2 (g_var rfl)) (g_ixT2 (g_var rfl)))) fun z3 H3 ok3 => ?_
  refine sq_if0 ok3 (t_or (t_test (g_isN (g_var rfl) fun _ _ h => popt_non h)) fun _ => t_or (t_test (g_isN (g_var rfl) fun _ _ h => popt_non h)) fun _ => t_test (g_isN (g_var rfl) fun _ _ h => popt_non h)) (fun hb H4 ok4 => ?_) fun hb H4 ok4 => ?_
  · refine st_retE ok4 g_c (congrArg (fun o => popt o (PBox K)) (show meetB a.1 a.2 = none from ?_)) kr
    unfold meetB
    cases q1 : meetI a.1.1 a.2.1 <;> cases q2 : meetI a.1.2.1 a.2.2.1 <;> cases q3 : meetI a.1.2.2 a.2.2.2 <;> first | rfl | (rw [q1, q2, q3] at hb; cases hb)
  · revert ok4 hb
    cases q1 : meetI a.1.1 a.2.1 <;> cases q2 : meetI a.1.2.1 a.2.2.1 <;> cases q3 : meetI a.1.2.2 a.2.2.2 <;> intro hb ok4 <;> first | cases hb | skip
    refine st_retE (d' := PBox K (_, _, _)) ok4 ((g_tup (a_cons (g_var rfl) (a_cons (g_var rfl) (a_cons (g_var rfl) a_nil))))) (congrArg (fun o => popt o (PBox K)) (show meetB a.1 a.2 = some (_, _, _) from ?_)) kr
    unfold meetB
    rw [q1, q2, q3]
end
end K9
set_option Elab.async false
set_option linter.all false
set_option maxRecDepth 100000
set_option maxHeartbeats 4000000
/-! K9D2: forces, ways: pull_over, State, put, split, parts_of, step, cut, push_at, sighting_at. -/
namespace K9
open PySem PySem.Spec PyProof.Rows L2
theorem getB_ok (K : PySem.W.Frag) {b : Box} {i : Nat} (h : i < 3) : [PIv K b.1, PIv K b.2.1, PIv K b.2.2][i]? = some (PIv K (getB b i)) := by
  match i, h with
  | 0, _ => rfl
  | 1, _ => rfl
  | 2, _ => rfl
def facI (i : Nat) : Int := if i = 2 then 3 else 1
theorem facI_ok {i : Nat} (h : i < 3) : [PI 1, PI 1, PI 3][i]? = some (PI (facI i)) := by
  match i, h with
  | 0, _ => rfl
  | 1, _ => rfl
  | 2, _ => rfl
theorem getB_put {b : Box} {k : Nat} {x : Iv} (h : k < 3) : getB (putB b k x) k = x := by
  match k, h with
  | 0, _ => rfl
  | 1, _ => rfl
  | 2, _ => rfl
theorem getB_putN {b : Box} {k j : Nat} {x : Iv} (hj : j < 3) (h : j ≠ k) : getB (putB b k x) j = getB b j := by
  match j, hj with
  | 0, _ => show (if k = 0 then x else b.1) = b.1; rw [if_neg fun z => h z.symm]
  | 1, _ => show (if k = 1 then x else b.2.1) = b.2.1; rw [if_neg fun z => h z.symm]
  | 2, _ => show (if k = 2 then x else b.2.2) = b.2.2; rw [if_neg fun z => h z.symm]
theorem getB_bB {b : Box} {n i : Nat} (h : bB n b) : bI n (getB b i) := by
  unfold getB
  split
  · exact h.1
  · split
    · exact h.2.1
    · exact h.2.2
theorem sqlB_b {b : Box} (h : bB 134 b) : bI 270 (sqlB b) := (((h.1.sqr).add (h.2.1.sqr)).add ((h.2.2.sqr).mono (by decide)))
theorem popt_nonG {A : Type} {o : Option A} {f : A → Dn} {H : Hp} {v : V} (hf : ∀ x, (f x).holds H v → decide (v = .non) = false) (h : (popt o f).holds H v) : decide (v = .non) = o.isNone := by
  cases o with
  | none => exact pn_non h
  | some x => exact hf x h
theorem popt_nonO {A : Type} {o : Option A} {C : Addr} {fs : A → List (Str × Dn)} {H : Hp} {v : V} (h : (popt o fun x => PO C (fs x)).holds H v) : decide (v = .non) = o.isNone := popt_nonG (fun _ h => po_non h) h
theorem map_at {A : Type} {xs : List A} {f : A → Dn} {i : Nat} {d : Dn} (h : (xs.map f)[i]? = some d) : ∃ y, xs[i]? = some y ∧ f y = d := by
  rw [List.getElem?_map] at h
  cases q : xs[i]? with
  | none =>
    rw [q] at h
    cases h
  | some y =>
    rw [q] at h
    exact ⟨y, rfl, Option.some.inj h⟩
theorem take_at {A : Type} {xs : List A} {i : Nat} {y : A} (h : xs[i]? = some y) : xs.take (i + 1) = xs.take i ++ [y] := by
  rw [List.take_add_one, h]
  rfl
theorem at_lt {A : Type} {xs : List A} {i : Nat} {y : A} (h : xs[i]? = some y) : i < xs.length := (List.getElem?_eq_some_iff.mp h).1
theorem find_next {A : Type} {xs : List A} {p : A → Bool} {i : Nat} {y : A} (h : (xs.take i).find? p = none) (e : xs[i]? = some y) (hp : p y = false) : (xs.take (i + 1)).find? p = none := by
  rw [take_at e, List.find?_append, h, List.find?_cons_of_neg (by rw [hp]; exact Bool.false_ne_true)]
  rfl
theorem find_here {A : Type} {xs : List A} {p : A → Bool} {i : Nat} {y : A} (h : (xs.take i).find? p = none) (e : xs[i]? = some y) (hp : p y = true) : xs.find? p = some y := by
  rw [← List.take_append_drop (i + 1) xs, take_at e, List.append_assoc, List.find?_append, h, List.find?_append, List.find?_cons_of_pos hp]
  rfl
section
variable {K : PySem.W.Frag} {G : Cn} {ta tb tc : TE} {a b c : Dn}
/-- a op b op c, as a test -/
theorem tt_chain {r r' : R2} {j k : Bool} (ha : EvG ta G a) (hb : EvG tb G b) (hr : R2G r a b (PB j)) (hc : j = true → EvG tc G c) (hr' : R2G r' b c (PB k)) : EvT (tTest (tChain r r' ta tb tc)) G (j && k) := t_test (g_chain ha hb hr hc hr')
end
section
variable {K : PySem.W.Frag} {B0 B : Hp} {s : L2.St} {H : Hp} {D : Ends} {te : TE} {tb : TS}
theorem st_forLm {A Y : Type} {g : TG} (xs : List Y) (f : Y → Dn) (R : Nat → A → Prop) (Gs : Nat → A → Cn) (Gt : Y → Nat → A → Cn) (Ws : Nat → A → Option Ow) (x0 : A) (r0 : R 0 x0) (h : OkS B0 B (Gs 0 x0) (Ws 0 x0) s H) (ev : EvG te (Gs 0 x0) (PL (xs.map f)))
    (tg : ∀ y i x, TgG g (Gs i x) (f y) (Gt y i x))
    (body : ∀ C0 C, (∀ {G' W' s' H'}, OkS C0 C G' W' s' H' → OkS B0 B G' W' s' H') → ∀ i y x, xs[i]? = some y → R i x → ∀ s' H', OkS C0 C (Gt y i x) (Ws i x) s' H' → ∀ N : L2.St → Hp → Prop, (∀ s2 H2 y, R (i + 1) y → OkS C0 C (Gs (i + 1) y) (Ws (i + 1) y) s2 H2 → N s2 H2) → tb { D with nx := N, ct := N, bk := D.nx } s' H')
    (k : ∀ x s' H', R xs.length x → OkS B0 B (Gs xs.length x) (Ws xs.length x) s' H' → D.nx s' H') : tFor (iList K te) g tb D s H := by
  refine st_forLx R Gs (fun i x => match xs[i]? with | some y => Gt y i x | none => []) Ws x0 r0 h ev (fun i d x hd r => ?_) (fun C0 C up i d x hd r s' H' ok N hN => ?_) (fun x s' H' r ok => ?_)
  · obtain ⟨y, hy, rfl⟩ := map_at hd
    simp only [hy]
    exact tg y i x
  · obtain ⟨y, hy, rfl⟩ := map_at hd
    simp only [hy] at ok
    exact body C0 C up i y x hy r s' H' ok N hN
  · rw [List.length_map] at r ok
    exact k x s' H' r ok
theorem st_forTm {A Y : Type} {g : TG} (xs : List Y) (f : Y → Dn) (R : Nat → A → Prop) (Gs : Nat → A → Cn) (Gt : Y → Nat → A → Cn) (Ws : Nat → A → Option Ow) (x0 : A) (r0 : R 0 x0) (h : OkS B0 B (Gs 0 x0) (Ws 0 x0) s H) (ev : EvG te (Gs 0 x0) (PT K (xs.map f)))
    (tg : ∀ y i x, TgG g (Gs i x) (f y) (Gt y i x))
    (body : ∀ C0 C, (∀ {G' W' s' H'}, OkS C0 C G' W' s' H' → OkS B0 B G' W' s' H') → ∀ i y x, xs[i]? = some y → R i x → ∀ s' H', OkS C0 C (Gt y i x) (Ws i x) s' H' → ∀ N : L2.St → Hp → Prop, (∀ s2 H2 y, R (i + 1) y → OkS C0 C (Gs (i + 1) y) (Ws (i + 1) y) s2 H2 → N s2 H2) → tb { D with nx := N, ct := N, bk := D.nx } s' H')
    (k : ∀ x s' H', R xs.length x → OkS B0 B (Gs xs.length x) (Ws xs.length x) s' H' → D.nx s' H') : tFor (iTup K te) g tb D s H := by
  refine st_forTx R Gs (fun i x => match xs[i]? with | some y => Gt y i x | none => []) Ws x0 r0 h ev (fun i d x hd r => ?_) (fun C0 C up i d x hd r s' H' ok N hN => ?_) (fun x s' H' r ok => ?_)
  · obtain ⟨y, hy, rfl⟩ := map_at hd
    simp only [hy]
    exact tg y i x
  · obtain ⟨y, hy, rfl⟩ := map_at hd
    simp only [hy] at ok
    exact body C0 C up i y x hy r s' H' ok N hN
  · rw [List.length_map] at r ok
    exact k x s' H' r ok
end
section
variable {X : Cx} {K : PySem.W.Frag} {a b e : Expr} {f : Str} {pos : Pos} {ta tb : TE}
/-- within a comprehension the fragment is named -/
theorem pe_fldK (he : PE X e ta) (hb : attributeBase e f X.env (eval e X.env) = eval e X.env) (hK : X.K = K := by rfl) : PE X (.Attribute e f pos) (tFld K ta f) := by
  subst hK
  exact pe_fld he hb
theorem pe_ixTK (ha : PE X a ta) (hb : PE X b tb) (hs : PlainIx b) (hK : X.K = K := by rfl) : PE X (.Subscript a b pos) (tOp (rIxT K) ta tb) := by
  subst hK
  exact pe_ix ix_tup ha hb hs
theorem pe_ixLK (ha : PE X a ta) (hb : PE X b tb) (hs : PlainIx b) (hK : X.K = K := by rfl) : PE X (.Subscript a b pos) (tOp (rIxL K) ta tb) := by
  subst hK
  exact pe_ix ix_list ha hb hs
end
section
variable {P : Program} {w : World} {K : PySem.W.Frag} {mg : Str → Option Value} {base : Heap} {G : Cn} {ta tb tc td : TE} {E : XK}
/-! #### pull_over -/
abbrev sp_pull_over (K : PySem.W.Frag) : Sp := spF (fun a : Bd × Box => [PBd K a.1, PBox K a.2]) (fun a => okBd a.1 ∧ okB a.2) fun a => popt (pullB a.1.mu a.1.obl a.2) (PBox K)
theorem g_pull_over {a : Bd} {b : Box} (ha : EvG ta G (PBd K a)) (hb : EvG tb G (PBox K b)) (h : okBd a ∧ okB b) : EvG (tCall (sp_pull_over K) [] E (tCons ta (tCons tb tNil))) G (popt (pullB a.mu a.obl b) (PBox K)) := g_callF (res := fun a : Bd × Box => popt (pullB a.1.mu a.1.obl a.2) (PBox K)) (a, b) h (a_cons ha (a_cons hb a_nil))
theorem d_pull_over (T : Tx w K mg) : Df P w K mg base CX0 3 "pull_over" ["body", "box"] (sp_pull_over K) := by
  have G_add := d_add (P := P) (base := base) T
  have G_subtract := d_subtract (P := P) (base := base) T
  have G_scaled := d_scaled (P := P) (base := base) T
  have G_multiply := d_multiply (P := P) (base := base) T
  have G_square := d_square (P := P) (base := base) T
  have G_quotient := d_quotient (P := P) (base := base) T
  have G_root := d_root (P := P) (base := base) T
  have G_square_length := d_square_length (P := P) (base := base) T
  refine df_F T.F_pull_over T.g_pull_over T.B_pull_over sc_pull_over (fun _ => rfl) (fun a => [some (PBd K a.1), some (PBox K a.2), none, none, none, none, none, none, none, none, none]) (fun _ => rfl) fun cdv A' outer s H E hr => ⟨_, (pss_cons (ps_set (i := 2) sc_pull_over.nd rfl (by first | exact Or.inl rfl | exact Or.inr rfl) (pe_d G_square_length hr (pa_cons (pv 1) pa_nil)))
    (pss_cons (ps_if (pt_cmpR op_eq (pe_ix ix_tup (pv 2) pe_int (fun _ _ => rfl)) pe_int (nomark _)) (pss_one (ps_ret pe_non)) pss_nil)
    (pss_cons (ps_set (i := 3) sc_pull_over.nd rfl (by first | exact Or.inl rfl | exact Or.inr rfl) (pe_d G_multiply hr (pa_cons (pv 2) (pa_cons (pe_d G_root hr (pa_cons (pv 2) pa_nil)) pa_nil))))
    (pss_cons (ps_set (i := 4) sc_pull_over.nd rfl (by first | exact Or.inl rfl | exact Or.inr rfl) (pe_d G_multiply hr (pa_cons (pe_d G_multiply hr (pa_cons (pv 2) (pa_cons (pv 2) pa_nil))) (pa_cons (pv 3) pa_nil))))
    (pss_cons (ps_set (i := 5) sc_pull_over.nd rfl (by first | exact Or.inl rfl | exact Or.inr rfl) (pe_d G_scaled hr (pa_cons (pe_d G_square hr (pa_cons (pe_ix ix_tup (pv 1) pe_int (fun _ _ => rfl)) pa_nil)) (pa_cons pe_int pa_nil))))
    (pss_cons (ps_set (i := 6) sc_pull_over.nd rfl (by first | exact Or.inl rfl | exact Or.inr rfl) (pe_lst pa_nil))
    (pss_cons (ps_for PassesOwn.never rfl (pi_range1 rfl T.n_range (pa_cons pe_int pa_nil)) (pg_name (i := 7) sc_pull_over.nd rfl (by first | exact Or.inl rfl | exact Or.inr rfl)) (pss_cons (ps_set (i := 8) sc_pull_over.nd rfl (by first | exact Or.inl rfl | exact Or.inr rfl) (pe_d G_quotient hr (pa_cons (pe_d G_scaled hr (pa_cons (pe_ix ix_tup (pv 1) (pv 7) (fun _ _ => rfl)) (pa_cons (pe_un un_neg (pe_fld (pv 0) rfl)) pa_nil))) (pa_cons (pv 3) pa_nil))))
    (pss_cons (ps_set (i := 9) sc_pull_over.nd rfl (by first | exact Or.inl rfl | exact Or.inr rfl) (pe_d G_multiply hr (pa_cons (pe_ix ix_tup (pv 1) (pv 7) (fun _ _ => rfl)) (pa_cons (pe_d G_subtract hr (pa_cons (pv 5) (pa_cons (pe_d G_scaled hr (pa_cons (pv 2) (pa_cons (pe_ix ix_tup (pe_glob (v := .ref _) rfl T.g_FACTORS rfl) (pv 7) (fun _ _ => rfl)) pa_nil))) pa_nil))) pa_nil))))
    (pss_cons (ps_set (i := 10) sc_pull_over.nd rfl (by first | exact Or.inl rfl | exact Or.inr rfl) (pe_d G_quotient hr (pa_cons (pe_d G_scaled hr (pa_cons (pv 9) (pa_cons (pe_fld (pv 0) rfl) pa_nil))) (pa_cons (pv 4) pa_nil))))
    (pss_one (ps_expr (pe_bm PySem.F.plainAttrs_list PySem.F.slot_list_append PySem.F.type_list_append mt_append (pv 6) (pa_cons (pe_d G_add hr (pa_cons (pv 8) (pa_cons (pv 10) pa_nil))) pa_nil))))))))
    (pss_one (ps_ret (pe_tup (pa_cons (pe_ix ix_list (pv 6) pe_int (fun _ _ => rfl)) (pa_cons (pe_ix ix_list (pv 6) pe_int (fun _ _ => rfl)) (pa_cons (pe_ix ix_list (pv 6) pe_int (fun _ _ => rfl)) pa_nil))))))))))))), ?_⟩
  intro a pre B0 z D ok kr kn
  obtain ⟨b, x⟩ := a
  obtain ⟨⟨p1, p2⟩, q1, q2⟩ := pre
  have n1 : 0 ≤ (sqlB x).1 := (sqlB_v q1).1
  have n2 : (sqlB x).1 ≤ (sqlB x).2 := (sqlB_v q1).2
  have q2 : bB 134 x := q2
  have bs : bI 270 (sqlB x) := sqlB_b q2
  refine sq_asg ok (g_square_length (g_var rfl) ⟨q2.1.mono (by decide), q2.2.1.mono (by decide), q2.2.2.mono (by decide)⟩) fun z1 H1 ok1 => ?_
  refine sq_if0 ok1 (t_test (g_op (g_ixT0 (g_var rfl)) g_c (r_eq rfl))) (fun hb H2 ok2 => ?_) fun hb H2 ok2 => ?_
  · have e0 : (sqlB x).1 = 0 := V.int.inj (of_decide_eq_true hb)
    exact st_retE ok2 g_c (congrArg (fun o => popt o (PBox K)) (if_pos e0)) kr
  have e0 : (sqlB x).1 ≠ 0 := fun h => of_decide_eq_false hb (congrArg V.int h)
  have s1 : 1 ≤ (sqlB x).1 := by omega
  have s2 : 1 ≤ (sqlB x).2 := Int.le_trans s1 n2
  have d12 := dOf_pos s1 s2
  have e12 := eOf_pos s1 s2
  have br := rootI_b bs n1 (by omega)
  have bdd : bI 540 (dOf (sqlB x)) := bs.mul br
  have bee : bI 1080 (eOf (sqlB x)) := (bs.mul bs).mul bdd
  have bh : bI 271 (sclI (sqrI x.2.2) 5) := (q2.2.2.sqr).scl (m := 3) (by unfold bd; decide)
  refine sq_asg ok2 (g_multiply (g_var rfl) (g_root (g_var rfl) ⟨bs.mono (by decide), show 0 ≤ (sqlB x).2 by omega⟩) ⟨bs.mono (by decide), br.mono (by decide)⟩) fun z3 H3 ok3 => ?_
  refine sq_asg ok3 (g_multiply (g_multiply (g_var rfl) (g_var rfl) ⟨bs.mono (by decide), bs.mono (by decide)⟩) (g_var rfl) ⟨(bs.mul bs).mono (by decide), bdd.mono (by decide)⟩) fun z4 H4 ok4 => ?_
  refine sq_asg ok4 (g_scaled (g_square (g_ixT2 (g_var rfl)) (q2.2.2.mono (by decide))) g_c ⟨(q2.2.2.sqr).mono (by decide), bd.mono (n := 3) (by unfold bd; decide) (by decide)⟩) fun z5 H5 ok5 => ?_
  refine sq_own ok5 a_nil fun l z6 H6 ok6 => ?_
  refine sq (st_forR ok6 (a_cons g_c a_nil) (m := 3) rfl ⟨by decide, by decide⟩ (fun _ => [some (PBd K b), some (PBox K x), some (PIv K (sqlB x)), some (PIv K (dOf (sqlB x))), some (PIv K (eOf (sqlB x))), some (PIv K (sclI (sqrI x.2.2) 5)), some (PV (.ref l)), none, none, none, none])
    (fun i => [some (PBd K b), some (PBox K x), some (PIv K (sqlB x)), some (PIv K (dOf (sqlB x))), some (PIv K (eOf (sqlB x))), some (PIv K (sclI (sqrI x.2.2) 5)), some (PV (.ref l)), some (PI (0 + (i : Int))), none, none, none])
    (fun i => some (owL l ((List.range i).map fun k => PIv K (pullI b.mu b.obl (sqlB x) (dOf (sqlB x)) (eOf (sqlB x)) (sclI (sqrI x.2.2) 5) (getB x k) (facI k))))) rfl rfl (fun i hi => tg_name) (fun C0 C up i hi s' H' ok7 => ?_) (fun s' H' ok7 => ?_))
  · have bc := getB_bB (i := i) q2
    have bf : bd 2 (facI i) := by
      unfold facI bd
      split <;> decide
    have bs2 : bI 272 (sclI (sqlB x) (facI i)) := bs.scl bf
    have bm : bI 407 (mulI (getB x i) (subI (sclI (sqrI x.2.2) 5) (sclI (sqlB x) (facI i)))) := bc.mul ((bh.mono (by decide)).sub bs2)
    refine sq_asg ok7 (g_quotient (g_scaled (g_ixT i (g_var rfl) (g_var rfl) (by omega) (getB_ok K hi)) (g_U (g_fld (g_var rfl) T.cl_Body T.na_Body_mu rfl)) ⟨bc.mono (by decide), p1.neg.mono (by decide)⟩) (g_var rfl) ⟨by omega, by omega, bdd.mono (by decide)⟩) fun z8 H8 ok8 => ?_
    refine sq_asg ok8 (g_multiply (g_ixT i (g_var rfl) (g_var rfl) (by omega) (getB_ok K hi)) (g_subtract (g_var rfl) (g_scaled (g_var rfl) (g_ixT i (g_cd T.r_FACTORS) (g_var rfl) (by omega) (facI_ok hi)) ⟨bs.mono (by decide), bf.mono (by decide)⟩)) ⟨bc.mono (by decide), ((bh.mono (by decide)).sub bs2).mono (by decide)⟩) fun z9 H9 ok9 => ?_
    refine sq_asg ok9 (g_quotient (g_scaled (g_var rfl) (g_fld (g_var rfl) T.cl_Body T.na_Body_oblateness rfl) ⟨bm.mono (by decide), p2.mono (by decide)⟩) (g_var rfl) ⟨by omega, by omega, bee.mono (by decide)⟩) fun z10 H10 ok10 => ?_
    refine st_app ok10 (g_var rfl) (g_add (g_var rfl) (g_var rfl)) (by rw [List.length_map, List.length_range]; omega) fun H11 ok11 => ?_
    have ok12 := ok11.forget [7, 8, 9, 10]
    rw [List.range_succ, List.map_append]
    exact ok12
  · have ok8 := OkS.freezeL (i := 6) ok7 rfl
    refine st_retE ok8 (g_tup (a_cons (g_ixL0 (g_var rfl)) (a_cons (g_ixL1 (g_var rfl)) (a_cons (g_ixL2 (g_var rfl)) a_nil)))) (congrArg (fun o => popt o (PBox K)) (show pullB b.mu b.obl x = some (_, _, _) from ?_)) kr
    exact if_neg e0
/-! #### State, put, split, parts_of -/
abbrev sp_State (K : PySem.W.Frag) : Sp := spI (He.ga K "State") (fun s : Sta => [PBox K s.1, PBox K s.2]) (fun _ => True) fun s => [("place", PBox K s.1), ("speed", PBox K s.2)]
theorem d_State (T : Tx w K mg) : Dc P w K mg base CX0 1 "State" (He.ga K "State") ["self", "place", "speed"] [] (sp_State K) := by
  refine dc_I T.F_State_init T.g_State T.mk_State T.B_State_init .nil sc_State_init (fun _ => rfl) (fun s v => [some (PV v), some (PBox K s.1), some (PBox K s.2)]) (fun _ _ => rfl) fun cdv A' outer s H E hr => ⟨_, (pss_cons (ps_fld (pv 0) (pv 1) rfl)
    (pss_one (ps_fld (pv 0) (pv 2) rfl))), ?_⟩
  intro a pre B0 B p dx z D ok kn
  refine sq_fld ok (g_var rfl) (g_var rfl) T.cl_State T.na_State_place (Nat.le_of_ble_eq_true rfl) rfl fun H1 ok1 => ?_
  exact st_fld ok1 (g_var rfl) (g_var rfl) T.cl_State T.na_State_speed (Nat.le_of_ble_eq_true rfl) rfl fun H2 ok2 => kn _ _ _ ok2
theorem g_State {b1 b2 : Box} (ha : EvG ta G (PBox K b1)) (hb : EvG tb G (PBox K b2)) : EvG (tMake (He.ga K "State") (sp_State K) [] E (tCons ta (tCons tb tNil))) G (PSta K (b1, b2)) := g_make (args := fun s : Sta => [PBox K s.1, PBox K s.2]) (b1, b2) trivial [_, _] [] [] rfl (fun _ => trivial) (a_cons ha (a_cons hb a_nil))
abbrev sp_put (K : PySem.W.Frag) : Sp := spF (fun a : Box × Nat × Iv => [PBox K a.1, PI (a.2.1 : Int), PIv K a.2.2]) (fun a => a.2.1 < 3) fun a => PBox K (putB a.1 a.2.1 a.2.2)
theorem g_put {b : Box} {i : Int} (k : Nat) {x : Iv} (ha : EvG ta G (PBox K b)) (hb : EvG tb G (PI i)) (hc : EvG tc G (PIv K x)) (e : i = (k : Int)) (h : k < 3) : EvG (tCall (sp_put K) [] E (tCons ta (tCons tb (tCons tc tNil)))) G (PBox K (putB b k x)) := by
  subst e
  exact g_callF (args := fun a : Box × Nat × Iv => [PBox K a.1, PI (a.2.1 : Int), PIv K a.2.2]) (res := fun a : Box × Nat × Iv => PBox K (putB a.1 a.2.1 a.2.2)) (b, k, x) h (a_cons ha (a_cons hb (a_cons hc a_nil)))
theorem d_put (T : Tx w K mg) : Df P w K mg base CX0 1 "put" ["box", "k", "interval"] (sp_put K) := by
  refine df_F T.F_put T.g_put T.B_put sc_put (fun _ => rfl) (fun a => [some (PBox K a.1), some (PI (a.2.1 : Int)), some (PIv K a.2.2), none]) (fun _ => rfl) fun cdv A' outer s H E hr => ⟨_, (pss_one (ps_ret (pe_callTy call_tuple_of rfl T.n_tuple (by decide +kernel) (pa_cons (pe_lc (own := [("j", 3)]) (g := (gName 3)) rfl sc_put.nd (pi_range1 rfl T.n_range (pa_cons pe_int pa_nil)) (blkOk_by (N := N_put) (sc := defScope S_put) (by decide +kernel)) (fun _ _ _ _ _ => (pg_name (i := 3) sc_put.nd rfl (Or.inl rfl))) (fun _ _ _ _ _ => pts_nil) (fun _ _ _ _ _ => (pe_ifExp (pt_cmpR op_eq (pv 3) (pv 1) (nomark _)) (pv 2) (pe_ixTK (K := K) (pv 0) (pv 3) (fun _ _ => rfl))))) pa_nil)))), ?_⟩
  intro a pre B0 z D ok kr kn
  obtain ⟨b, k, x⟩ := a
  have pre : k < 3 := pre
  refine st_retE ok (g_cb (a_cons (EvG.imp (g_lcR (vs := [3]) 3 (fun j => PIv K (getB (putB b k x) j)) (fun _ => true) (fun j => [some (PBox K b), some (PI (k : Int)), some (PIv K x), some (PI (0 + (j : Int)))]) rfl (a_cons g_c a_nil) (by decide) (fun i hi => tc_name) (fun i hi => t_yes)
    (fun i hi _ => g_if (t_test (g_op (g_var rfl) (g_var rfl) (r_eq rfl))) (fun h => ?_) (fun h => ?_))) fun _ _ => pq_l) a_nil) r_tuple) rfl kr
  · have e : 0 + (i : Int) = k := V.int.inj (of_decide_eq_true h)
    have e : i = k := by omega
    subst e
    exact (g_var rfl).is (congrArg (PIv K) (getB_put hi).symm)
  · have e : ¬ (0 + (i : Int) = k) := fun z => of_decide_eq_false h (congrArg V.int z)
    have e : i ≠ k := by omega
    exact (g_ixT i (g_var rfl) (g_var rfl) (by omega) (getB_ok K hi)).is (congrArg (PIv K) (getB_putN hi e).symm)
abbrev PStas (K : PySem.W.Frag) (ss : List Sta) : Dn := PL (ss.map (PSta K))
abbrev sp_split (K : PySem.W.Frag) : Sp := spF (fun a : Sta => [PSta K a]) (fun _ => True) fun a => PStas K (splitS a)
theorem g_split {a : Sta} (ha : EvG ta G (PSta K a)) : EvG (tCall (sp_split K) [] E (tCons ta tNil)) G (PStas K (splitS a)) := g_callF (res := fun a : Sta => PStas K (splitS a)) a trivial (a_cons ha a_nil)
theorem ivAt_get (K : PySem.W.Frag) {s : Sta} {i : Nat} (h : i < 6) : ((ivs s).map (PIv K))[i]? = some (PIv K (ivAt s i)) := by
  match i, h with
  | 0, _ => rfl
  | 1, _ => rfl
  | 2, _ => rfl
  | 3, _ => rfl
  | 4, _ => rfl
  | 5, _ => rfl
theorem d_split (T : Tx w K mg) : Df P w K mg base CX0 3 "split" ["state"] (sp_split K) := by
  have G_width := d_width (P := P) (base := base) T
  have G_middle := d_middle (P := P) (base := base) T
  have G_State := d_State (P := P) (base := base) T
  have G_put := d_put (P := P) (base := base) T
  refine df_F T.F_split T.g_split T.B_split sc_split (fun _ => rfl) (fun a => [some (PSta K a), none, none, none, none, none, none, none, none]) (fun _ => rfl) fun cdv A' outer s H E hr => ⟨_, (pss_cons (ps_set (i := 1) sc_split.nd rfl (by first | exact Or.inl rfl | exact Or.inr rfl) (pe_op op_cat (pe_callTy call_list_of rfl T.n_list (by decide +kernel) (pa_cons (pe_fld (pv 0) rfl) pa_nil)) (pe_callTy call_list_of rfl T.n_list (by decide +kernel) (pa_cons (pe_fld (pv 0) rfl) pa_nil))))
    (pss_cons (ps_set (i := 2) sc_split.nd rfl (by first | exact Or.inl rfl | exact Or.inr rfl) pe_int)
    (pss_cons (ps_for PassesOwn.never rfl (pi_range2 rfl T.n_range (pa_cons pe_int (pa_cons pe_int pa_nil))) (pg_name (i := 3) sc_split.nd rfl (by first | exact Or.inl rfl | exact Or.inr rfl)) (pss_one (ps_if (pt_cmpR op_gt (pe_d G_width hr (pa_cons (pe_ix ix_list (pv 1) (pv 3) (fun _ _ => rfl)) pa_nil)) (pe_d G_width hr (pa_cons (pe_ix ix_list (pv 1) (pv 2) (fun _ _ => rfl)) pa_nil)) (nomark _)) (pss_one (ps_set (i := 2) sc_split.nd rfl (by first | exact Or.inl rfl | exact Or.inr rfl) (pv 3))) pss_nil)))
    (pss_cons (ps_asg (pe_ix ix_list (pv 1) (pv 2) (fun _ _ => rfl)) (pg_tup rfl (pgs_cons (pg_name (i := 4) sc_split.nd rfl (by first | exact Or.inl rfl | exact Or.inr rfl)) (pgs_cons (pg_name (i := 5) sc_split.nd rfl (by first | exact Or.inl rfl | exact Or.inr rfl)) pgs_nil))))
    (pss_cons (ps_if (pt_cmpR op_eq (pv 4) (pv 5) (nomark _)) (pss_one (ps_ret (pe_lst (pa_cons (pe_k G_State hr (pa_cons (pe_fld (pv 0) rfl) (pa_cons (pe_fld (pv 0) rfl) pa_nil))) pa_nil)))) pss_nil)
    (pss_cons (ps_set (i := 6) sc_split.nd rfl (by first | exact Or.inl rfl | exact Or.inr rfl) (pe_d G_middle hr (pa_cons (pe_ix ix_list (pv 1) (pv 2) (fun _ _ => rfl)) pa_nil)))
    (pss_cons (ps_set (i := 7) sc_split.nd rfl (by first | exact Or.inl rfl | exact Or.inr rfl) (pe_lst pa_nil))
    (pss_cons (ps_for PassesOwn.never rfl (pi_list (pe_lst (pa_cons (pe_tup (pa_cons (pv 4) (pa_cons (pv 6) pa_nil))) (pa_cons (pe_tup (pa_cons (pe_op op_add (pv 6) pe_int) (pa_cons (pv 5) pa_nil))) pa_nil)))) (pg_name (i := 8) sc_split.nd rfl (by first | exact Or.inl rfl | exact Or.inr rfl)) (pss_one (ps_if (pt_cmpR op_lt (pv 2) pe_int (nomark _)) (pss_one (ps_expr (pe_bm PySem.F.plainAttrs_list PySem.F.slot_list_append PySem.F.type_list_append mt_append (pv 7) (pa_cons (pe_k G_State hr (pa_cons (pe_d G_put hr (pa_cons (pe_fld (pv 0) rfl) (pa_cons (pv 2) (pa_cons (pv 8) pa_nil)))) (pa_cons (pe_fld (pv 0) rfl) pa_nil))) pa_nil)))) (pss_one (ps_expr (pe_bm PySem.F.plainAttrs_list PySem.F.slot_list_append PySem.F.type_list_append mt_append (pv 7) (pa_cons (pe_k G_State hr (pa_cons (pe_fld (pv 0) rfl) (pa_cons (pe_d G_put hr (pa_cons (pe_fld (pv 0) rfl) (pa_cons (pe_op op_sub (pv 2) pe_int) (pa_cons (pv 8) pa_nil)))) pa_nil))) pa_nil)))))))
    (pss_one (ps_ret (pv 7))))))))))), ?_⟩
  intro a pre B0 z D ok kr kn
  refine sq_asg ok (EvG.is (d' := PL ((ivs a).map (PIv K))) (g_op (g_cb (a_cons (EvG.imp (g_fld (g_var rfl) T.cl_State T.na_State_place rfl) fun _ _ => pq_t) a_nil) r_list) (g_cb (a_cons (EvG.imp (g_fld (g_var rfl) T.cl_State T.na_State_speed rfl) fun _ _ => pq_t) a_nil) r_list) (r_cat (Nat.le_of_ble_eq_true rfl))) rfl) fun z1 H1 ok1 => ?_
  refine sq_asg ok1 g_c fun z2 H2 ok2 => ?_
  refine sq (st_forR2 ok2 (a_cons g_c (a_cons g_c a_nil)) (m := 5) rfl ⟨by decide, by decide, by decide, by decide⟩
    (fun i => [some (PSta K a), some (PL ((ivs a).map (PIv K))), some (PI ((widest a i : Nat) : Int)), none, none, none, none, none, none])
    (fun i => [some (PSta K a), some (PL ((ivs a).map (PIv K))), some (PI ((widest a i : Nat) : Int)), some (PI (1 + (i : Int))), none, none, none, none, none]) (fun _ => none) rfl rfl (fun i hi => tg_name) (fun C0 C up i hi s' H' ok3 => ?_) (fun s' H' ok3 => ?_))
  · have hw := widest_le a i
    refine st_if ok3 (t_test (g_I0 (g_width (g_ixL (i + 1) (g_var rfl) (g_var rfl) (by omega) (ivAt_get K (by omega)))) (g_width (g_ixL (widest a i) (g_var rfl) (g_var rfl) rfl (ivAt_get K (by omega)))))) (fun hb H4 ok4 => ?_) (fun hb H4 ok4 => ?_)
    · have hb : wdI (ivAt a (widest a i)) < wdI (ivAt a (i + 1)) := of_decide_eq_true hb
      have e : 1 + (i : Int) = ((widest a (i + 1) : Nat) : Int) := by
        unfold widest
        rw [if_pos hb]
        omega
      refine st_asg ok4 (EvG.is (g_var rfl) (congrArg (fun i => PI i) e)) fun s5 H5 ok5 => ?_
      exact ok5.forget [3]
    · have hb : ¬ wdI (ivAt a (widest a i)) < wdI (ivAt a (i + 1)) := of_decide_eq_false hb
      have e : widest a i = widest a (i + 1) := by
        show _ = if _ then _ else _
        rw [if_neg hb]
      have ok5 := ok4.forget [3]
      rw [e] at ok5
      exact ok5
  have hw : widest a 5 < 6 := Nat.lt_succ_of_le (widest_le a 5)
  generalize hk : widest a 5 = k at *
  refine sq_asgT ok3 (g_ixL k (g_var rfl) (g_var rfl) rfl (ivAt_get K hw)) (tg_tup (tgs_cons tg_name (tgs_cons tg_name tgs_nil))) fun s4 H4 ok4 => ?_
  refine sq_if0 ok4 (t_test (g_op (g_var rfl) (g_var rfl) (r_eq rfl))) (fun hb H5 ok5 => ?_) fun hb H5 ok5 => ?_
  · have e : (ivAt a k).1 = (ivAt a k).2 := V.int.inj (of_decide_eq_true hb)
    refine st_retE ok5 (g_lst (a_cons (g_State (g_fld (g_var rfl) T.cl_State T.na_State_place rfl) (g_fld (g_var rfl) T.cl_State T.na_State_speed rfl)) a_nil)) (show PStas K (splitS a) = PStas K [a] from congrArg (PStas K) ?_) kr
    unfold splitS
    simp only [hk]
    rw [if_pos e]
  have e : ¬ (ivAt a k).1 = (ivAt a k).2 := fun h => of_decide_eq_false hb (congrArg V.int h)
  refine sq_asg ok5 (g_middle (g_ixL k (g_var rfl) (g_var rfl) rfl (ivAt_get K hw))) fun s6 H6 ok6 => ?_
  refine sq_own ok6 a_nil fun l s7 H7 ok7 => ?_
  generalize hi : ivAt a k = x at *
  have hh : ∀ (i : Nat) (d : Dn), ([(x.1, midI x), (midI x + 1, x.2)].map (PIv K))[i]? = some d → ∃ y, [(x.1, midI x), (midI x + 1, x.2)][i]? = some y ∧ d = PIv K y := fun i d h => by
    rw [List.getElem?_map] at h
    cases q : [(x.1, midI x), (midI x + 1, x.2)][i]? with
    | none =>
      rw [q] at h
      cases h
    | some y =>
      rw [q] at h
      exact ⟨y, rfl, (Option.some.inj h).symm⟩
  refine sq (st_forL ok7 (ds := [(x.1, midI x), (midI x + 1, x.2)].map (PIv K)) (EvG.is (g_lst (a_cons (g_tup (a_cons (g_var rfl) (a_cons (g_var rfl) a_nil))) (a_cons (g_tup (a_cons (g_I0 (g_var rfl) g_c) (a_cons (g_var rfl) a_nil))) a_nil)) (Nat.le_of_ble_eq_true rfl)) rfl)
    (fun _ => [some (PSta K a), some (PL ((ivs a).map (PIv K))), some (PI (k : Int)), none, some (PI x.1), some (PI x.2), some (PI (midI x)), some (PV (.ref l)), none])
    (fun i => [some (PSta K a), some (PL ((ivs a).map (PIv K))), some (PI (k : Int)), none, some (PI x.1), some (PI x.2), some (PI (midI x)), some (PV (.ref l)), (([(x.1, midI x), (midI x + 1, x.2)].map (PIv K))[i]?)])
    (fun i => some (owL l (([(x.1, midI x), (midI x + 1, x.2)].take i).map fun h => PSta K (halfS a k h)))) rfl rfl (fun i d hd => ?_) (fun C0 C up i d hd s' H' ok8 => ?_) (fun s' H' ok8 => ?_))
  · rw [hd]
    exact tg_name
  · obtain ⟨y, hy, ed⟩ := hh i d hd
    subst ed
    rw [hd] at ok8
    have hlt : i < 2 := (List.getElem?_eq_some_iff.mp hy).1
    have et : [(x.1, midI x), (midI x + 1, x.2)].take (i + 1) = [(x.1, midI x), (midI x + 1, x.2)].take i ++ [y] := by
      rw [List.take_add_one, hy]
      rfl
    have hl : (([(x.1, midI x), (midI x + 1, x.2)].take i).map fun h => PSta K (halfS a k h)).length < 100000 := by
      rw [List.length_map, List.length_take]
      omega
    refine st_if ok8 (t_test (g_I0 (g_var rfl) g_c)) (fun hb H9 ok9 => ?_) (fun hb H9 ok9 => ?_)
    · have hb : (k : Int) < 3 := of_decide_eq_true hb
      refine st_app ok9 (g_var rfl) (g_State (g_put k (g_fld (g_var rfl) T.cl_State T.na_State_place rfl) (g_var rfl) (g_var rfl) rfl (by omega)) (g_fld (g_var rfl) T.cl_State T.na_State_speed rfl)) hl fun H10 ok10 => ?_
      rw [et, List.map_append]
      have e2 : halfS a k y = (putB a.1 k y, a.2) := if_pos (by omega)
      show OkS C0 C _ (some (owL l (_ ++ [PSta K (halfS a k y)]))) s' H10
      rw [e2]
      exact ok10.forget [8]
    · have hb : ¬ (k : Int) < 3 := of_decide_eq_false hb
      refine st_app ok9 (g_var rfl) (g_State (g_fld (g_var rfl) T.cl_State T.na_State_place rfl) (g_put (k - 3) (g_fld (g_var rfl) T.cl_State T.na_State_speed rfl) (g_I0 (g_var rfl) g_c) (g_var rfl) (by omega) (by omega))) hl fun H10 ok10 => ?_
      rw [et, List.map_append]
      have e2 : halfS a k y = (a.1, putB a.2 (k - 3) y) := if_neg (by omega)
      show OkS C0 C _ (some (owL l (_ ++ [PSta K (halfS a k y)]))) s' H10
      rw [e2]
      exact ok10.forget [8]
  · have ok9 := OkS.freezeL (i := 7) ok8 rfl
    refine st_retE ok9 (g_var rfl) (show PStas K (splitS a) = PStas K [halfS a k (x.1, midI x), halfS a k (midI x + 1, x.2)] from congrArg (PStas K) ?_) kr
    unfold splitS
    simp only [hk, hi]
    rw [if_neg e]
abbrev sp_parts_of (K : PySem.W.Frag) : Sp := spF (fun a : Sta × Nat => [PSta K a.1, PI (a.2 : Int)]) (fun a => a.2 ≤ 6) fun a => PStas K (partsS a.1 a.2)
theorem g_parts_of {a : Sta} {n : Nat} (ha : EvG ta G (PSta K a)) (hb : EvG tb G (PI (n : Int))) (h : n ≤ 6) : EvG (tCall (sp_parts_of K) [] E (tCons ta (tCons tb tNil))) G (PStas K (partsS a n)) := g_callF (args := fun a : Sta × Nat => [PSta K a.1, PI (a.2 : Int)]) (res := fun a : Sta × Nat => PStas K (partsS a.1 a.2)) (a, n) h (a_cons ha (a_cons hb a_nil))
theorem d_parts_of (T : Tx w K mg) : Df P w K mg base CX0 4 "parts_of" ["state", "fineness"] (sp_parts_of K) := by
  have G_split := d_split (P := P) (base := base) T
  have G_State := d_State (P := P) (base := base) T
  refine df_F T.F_parts_of T.g_parts_of T.B_parts_of sc_parts_of (fun _ => rfl) (fun a => [some (PSta K a.1), some (PI (a.2 : Int)), none, none, none, none]) (fun _ => rfl) fun cdv A' outer s H E hr => ⟨_, (pss_cons (ps_set (i := 2) sc_parts_of.nd rfl (by first | exact Or.inl rfl | exact Or.inr rfl) (pe_lst (pa_cons (pe_k G_State hr (pa_cons (pe_fld (pv 0) rfl) (pa_cons (pe_fld (pv 0) rfl) pa_nil))) pa_nil)))
    (pss_cons (ps_for PassesOwn.never rfl (pi_range1 rfl T.n_range (pa_cons (pv 1) pa_nil)) (pg_name (i := 3) sc_parts_of.nd rfl (by first | exact Or.inl rfl | exact Or.inr rfl)) (pss_cons (ps_set (i := 4) sc_parts_of.nd rfl (by first | exact Or.inl rfl | exact Or.inr rfl) (pe_lst pa_nil))
    (pss_cons (ps_for PassesOwn.never rfl (pi_list (pv 2)) (pg_name (i := 5) sc_parts_of.nd rfl (by first | exact Or.inl rfl | exact Or.inr rfl)) (pss_one (ps_set (i := 4) sc_parts_of.nd rfl (by first | exact Or.inl rfl | exact Or.inr rfl) (pe_op op_cat (pv 4) (pe_d G_split hr (pa_cons (pv 5) pa_nil))))))
    (pss_one (ps_set (i := 2) sc_parts_of.nd rfl (by first | exact Or.inl rfl | exact Or.inr rfl) (pv 4))))))
    (pss_one (ps_ret (pv 2))))), ?_⟩
  intro a pre B0 z D ok kr kn
  obtain ⟨a, n⟩ := a
  have pre : n ≤ 6 := pre
  refine sq_asg ok (EvG.is (d' := PStas K (partsS a 0)) (g_lst (a_cons (g_State (g_fld (g_var rfl) T.cl_State T.na_State_place rfl) (g_fld (g_var rfl) T.cl_State T.na_State_speed rfl)) a_nil)) rfl) fun z1 H1 ok1 => ?_
  have hlen : ∀ i, i < n → (partsS a i).length ≤ 64 := fun i hi => Nat.le_trans (partsS_len a i) (Nat.le_trans (Nat.pow_le_pow_right (by decide) (show i ≤ 6 by omega)) (by decide))
  refine sq (st_forR ok1 (a_cons (g_var rfl) a_nil) (m := n) (by omega) ⟨by omega, by omega⟩ (fun i => [some (PSta K a), some (PI (n : Int)), some (PStas K (partsS a i)), none, none, none]) (fun i => [some (PSta K a), some (PI (n : Int)), some (PStas K (partsS a i)), some (PI (0 + (i : Int))), none, none]) (fun _ => none) rfl rfl (fun i hi => tg_name) (fun C0 C up i hi s' H' ok2 => ?_) (fun s' H' ok2 => ?_))
  · have hl := hlen i hi
    refine sq_asg ok2 (EvG.is (d' := PStas K (((partsS a i).take 0).flatMap splitS)) (g_lst a_nil) rfl) fun z3 H3 ok3 => ?_
    refine sq (st_forL ok3 (ds := (partsS a i).map (PSta K)) (g_var rfl) (fun j => [some (PSta K a), some (PI (n : Int)), some (PStas K (partsS a i)), some (PI (0 + (i : Int))), some (PStas K (((partsS a i).take j).flatMap splitS)), none])
      (fun j => [some (PSta K a), some (PI (n : Int)), some (PStas K (partsS a i)), some (PI (0 + (i : Int))), some (PStas K (((partsS a i).take j).flatMap splitS)), ((partsS a i).map (PSta K))[j]?]) (fun _ => none) rfl rfl (fun j d hd => ?_) (fun C0 C up j d hd s' H' ok4 => ?_) (fun s' H' ok4 => ?_))
    · rw [hd]
      exact tg_name
    · rw [hd] at ok4
      rw [List.getElem?_map] at hd
      cases q : (partsS a i)[j]? with
      | none =>
        rw [q] at hd
        cases hd
      | some y =>
        rw [q] at hd
        have ed : PSta K y = d := Option.some.inj hd
        subst ed
        have h1 := flat_len splitS 2 splitS_len ((partsS a i).take j)
        have h2 := splitS_len y
        rw [List.length_take] at h1
        refine st_asg ok4 (g_op (g_var rfl) (g_split (g_var rfl)) (r_cat (by rw [List.length_map, List.length_map]; omega))) fun s5 H5 ok5 => ?_
        have et : ((partsS a i).take (j + 1)).flatMap splitS = ((partsS a i).take j).flatMap splitS ++ splitS y := by
          rw [List.take_add_one, q, List.flatMap_append]
          show _ ++ ([y]).flatMap splitS = _
          rw [List.flatMap_cons, List.flatMap_nil, List.append_nil]
        have ok6 := ok5.forget [5]
        rw [et, show PStas K (((partsS a i).take j).flatMap splitS ++ splitS y) = PL ((((partsS a i).take j).flatMap splitS).map (PSta K) ++ (splitS y).map (PSta K)) from congrArg PL List.map_append]
        exact ok6
    · rw [List.length_map, List.take_length] at ok4
      refine st_asg ok4 (g_var rfl) fun s5 H5 ok5 => ?_
      exact ok5.forget [3, 4]
  · exact st_ret ok2 (g_var rfl) kr
/-! #### step, cut -/
abbrev sp_step (K : PySem.W.Frag) : Sp := spF (fun a : Bd × Sta × Box × Int => [PBd K a.1, PSta K a.2.1, PBox K a.2.2.1, PI a.2.2.2]) (fun a => okBd a.1 ∧ okB a.2.1.1) fun a => popt (stepS a.1.mu a.1.obl a.2.1 a.2.2.1 a.2.2.2) (PSta K)
theorem g_step {b : Bd} {s : Sta} {p : Box} {d : Int} (ha : EvG ta G (PBd K b)) (hb : EvG tb G (PSta K s)) (hc : EvG tc G (PBox K p)) (hd : EvG td G (PI d)) (h : okBd b ∧ okB s.1) : EvG (tCall (sp_step K) [] E (tCons ta (tCons tb (tCons tc (tCons td tNil))))) G (popt (stepS b.mu b.obl s p d) (PSta K)) :=
  g_callF (args := fun a : Bd × Sta × Box × Int => [PBd K a.1, PSta K a.2.1, PBox K a.2.2.1, PI a.2.2.2]) (res := fun a : Bd × Sta × Box × Int => popt (stepS a.1.mu a.1.obl a.2.1 a.2.2.1 a.2.2.2) (PSta K)) (b, s, p, d) h (a_cons ha (a_cons hb (a_cons hc (a_cons hd a_nil))))
theorem d_step (T : Tx w K mg) : Df P w K mg base CX0 4 "step" ["body", "state", "push", "drift"] (sp_step K) := by
  have G_pull_over := d_pull_over (P := P) (base := base) T
  have G_box_add := d_box_add (P := P) (base := base) T
  have G_box_widened := d_box_widened (P := P) (base := base) T
  have G_box_size := d_box_size (P := P) (base := base) T
  have G_State := d_State (P := P) (base := base) T
  obtain ⟨_, m_LIMIT⟩ := T.i_LIMIT
  refine df_F T.F_step T.g_step T.B_step sc_step (fun _ => rfl) (fun a => [some (PBd K a.1), some (PSta K a.2.1), some (PBox K a.2.2.1), some (PI a.2.2.2), none, none, none]) (fun _ => rfl) fun cdv A' outer s H E hr => ⟨_, (pss_cons (ps_set (i := 4) sc_step.nd rfl (by first | exact Or.inl rfl | exact Or.inr rfl) (pe_d G_pull_over hr (pa_cons (pv 0) (pa_cons (pe_fld (pv 1) rfl) pa_nil))))
    (pss_cons (ps_if (pt_cmpR op_isN (pv 4) pe_non (nomark _)) (pss_one (ps_ret pe_non)) pss_nil)
    (pss_cons (ps_set (i := 5) sc_step.nd rfl (by first | exact Or.inl rfl | exact Or.inr rfl) (pe_d G_box_widened hr (pa_cons (pe_d G_box_add hr (pa_cons (pe_d G_box_add hr (pa_cons (pe_fld (pv 1) rfl) (pa_cons (pv 4) pa_nil))) (pa_cons (pv 2) pa_nil))) (pa_cons (pv 3) pa_nil))))
    (pss_cons (ps_set (i := 6) sc_step.nd rfl (by first | exact Or.inl rfl | exact Or.inr rfl) (pe_d G_box_add hr (pa_cons (pe_fld (pv 1) rfl) (pa_cons (pv 5) pa_nil))))
    (pss_cons (ps_if (PW.pt (pw_or (pt_cmpR op_gt (pe_d G_box_size hr (pa_cons (pv 6) pa_nil)) (pe_glob (v := .int _) rfl m_LIMIT ⟨_, rfl⟩) (nomark _)) (pw_or1 (pt_cmpR op_gt (pe_d G_box_size hr (pa_cons (pv 5) pa_nil)) (pe_glob (v := .int _) rfl m_LIMIT ⟨_, rfl⟩) (nomark _))))) (pss_one (ps_ret pe_non)) pss_nil)
    (pss_one (ps_ret (pe_k G_State hr (pa_cons (pv 6) (pa_cons (pv 5) pa_nil)))))))))), ?_⟩
  intro a pre B0 z D ok kr kn
  obtain ⟨b, s, p, dr⟩ := a
  refine sq_asg ok (g_pull_over (g_var rfl) (g_fld (g_var rfl) T.cl_State T.na_State_place rfl) pre) fun z1 H1 ok1 => ?_
  refine sq_if0 ok1 (t_test (g_isN (g_var rfl) fun _ _ h => popt_non h)) (fun hb H2 ok2 => ?_) fun hb H2 ok2 => ?_
  · refine st_retE ok2 g_c (congrArg (fun o => popt o (PSta K)) (show stepS b.mu b.obl s p dr = none from ?_)) kr
    unfold stepS
    cases q : pullB b.mu b.obl s.1 with
    | none => rfl
    | some a =>
      have hb : (pullB b.mu b.obl s.1).isNone = true := hb
      rw [q] at hb
      cases hb
  revert ok2 hb
  show (pullB b.mu b.obl s.1).isNone = false → OkS B0 H [some (PBd K b), some (PSta K s), some (PBox K p), some (PI dr), some (popt (pullB b.mu b.obl s.1) (PBox K)), none, none] none z1 H2 → _
  cases q : pullB b.mu b.obl s.1 with
  | none =>
    intro hb
    cases hb
  | some a =>
    intro hb ok2
    refine sq_asg ok2 (g_box_widened (g_box_add (g_box_add (g_fld (g_var rfl) T.cl_State T.na_State_speed rfl) (g_var rfl)) (g_var rfl)) (g_var rfl)) fun z3 H3 ok3 => ?_
    refine sq_asg ok3 (g_box_add (g_fld (g_var rfl) T.cl_State T.na_State_place rfl) (g_var rfl)) fun z4 H4 ok4 => ?_
    refine sq_if0 ok4 (t_or (t_test (g_I0 (g_box_size (g_var rfl)) g_c)) fun _ => t_test (g_I0 (g_box_size (g_var rfl)) g_c)) (fun hb H5 ok5 => ?_) fun hb H5 ok5 => ?_
    · refine st_retE ok5 g_c (congrArg (fun o => popt o (PSta K)) (show stepS b.mu b.obl s p dr = none from ?_)) kr
      unfold stepS
      rw [q]
      refine if_pos ?_
      rcases Bool.or_eq_true_iff.mp hb with h | h
      · exact .inl (of_decide_eq_true h)
      · exact .inr (of_decide_eq_true h)
    · refine st_retE ok5 (g_State (g_var rfl) (g_var rfl)) (congrArg (fun o => popt o (PSta K)) (show stepS b.mu b.obl s p dr = some (_, _) from ?_)) kr
      unfold stepS
      rw [q]
      refine if_neg fun h => ?_
      obtain ⟨h1, h2⟩ := Bool.or_eq_false_iff.mp hb
      rcases h with h | h
      · exact of_decide_eq_false h1 h
      · exact of_decide_eq_false h2 h
abbrev sp_cut (K : PySem.W.Frag) : Sp := spF (fun a : Sta × Box => [PSta K a.1, PBox K a.2]) (fun _ => True) fun a => popt (cutS a.1 a.2) (PSta K)
theorem g_cut {s : Sta} {b : Box} (ha : EvG ta G (PSta K s)) (hb : EvG tb G (PBox K b)) : EvG (tCall (sp_cut K) [] E (tCons ta (tCons tb tNil))) G (popt (cutS s b) (PSta K)) := g_callF (args := fun a : Sta × Box => [PSta K a.1, PBox K a.2]) (res := fun a : Sta × Box => popt (cutS a.1 a.2) (PSta K)) (s, b) trivial (a_cons ha (a_cons hb a_nil))
theorem d_cut (T : Tx w K mg) : Df P w K mg base CX0 3 "cut" ["state", "box"] (sp_cut K) := by
  have G_box_meet := d_box_meet (P := P) (base := base) T
  have G_State := d_State (P := P) (base := base) T
  refine df_F T.F_cut T.g_cut T.B_cut sc_cut (fun _ => rfl) (fun a => [some (PSta K a.1), some (PBox K a.2), none]) (fun _ => rfl) fun cdv A' outer s H E hr => ⟨_, (pss_cons (ps_set (i := 2) sc_cut.nd rfl (by first | exact Or.inl rfl | exact Or.inr rfl) (pe_d G_box_meet hr (pa_cons (pe_fld (pv 0) rfl) (pa_cons (pv 1) pa_nil))))
    (pss_cons (ps_if (pt_cmpR op_isN (pv 2) pe_non (nomark _)) (pss_one (ps_ret pe_non)) pss_nil)
    (pss_one (ps_ret (pe_k G_State hr (pa_cons (pv 2) (pa_cons (pe_fld (pv 0) rfl) pa_nil))))))), ?_⟩
  intro a pre B0 z D ok kr kn
  obtain ⟨s, b⟩ := a
  refine sq_asg ok (g_box_meet (g_fld (g_var rfl) T.cl_State T.na_State_place rfl) (g_var rfl)) fun z1 H1 ok1 => ?_
  revert ok1
  show OkS B0 H [some (PSta K s), some (PBox K b), some (popt (meetB s.1 b) (PBox K))] none z1 H1 → _
  have ec : cutS s b = match meetB s.1 b with | none => none | some p => some (p, s.2) := rfl
  cases q : meetB s.1 b with
  | none =>
    intro ok1
    rw [q] at ec
    refine sq_if0 ok1 (t_test (g_isN (k := true) (g_var rfl) fun _ _ h => popt_non h)) (fun hb H2 ok2 => ?_) fun hb H2 ok2 => nomatch hb
    exact st_retE ok2 g_c (congrArg (fun o => popt o (PSta K)) ec) kr
  | some p =>
    intro ok1
    rw [q] at ec
    refine sq_if0 ok1 (t_test (g_isN (k := false) (g_var rfl) fun _ _ h => popt_non h)) (fun hb H2 ok2 => nomatch hb) fun hb H2 ok2 => ?_
    exact st_retE ok2 (g_State (g_var rfl) (g_fld (g_var rfl) T.cl_State T.na_State_speed rfl)) (congrArg (fun o => popt o (PSta K)) ec) kr
/-! #### push_at, sighting_at -/
abbrev sp_push_at (K : PySem.W.Frag) : Sp := spF (fun a : Cr × Int => [PCr K a.1, PI a.2]) (fun _ => True) fun a => PBox K (pushAt a.1.burns a.2)
theorem g_push_at {c : Cr} {t : Int} (ha : EvG ta G (PCr K c)) (hb : EvG tb G (PI t)) : EvG (tCall (sp_push_at K) [] E (tCons ta (tCons tb tNil))) G (PBox K (pushAt c.burns t)) := g_callF (args := fun a : Cr × Int => [PCr K a.1, PI a.2]) (res := fun a : Cr × Int => PBox K (pushAt a.1.burns a.2)) (c, t) trivial (a_cons ha (a_cons hb a_nil))
theorem d_push_at (T : Tx w K mg) : Df P w K mg base CX0 1 "push_at" ["craft", "at"] (sp_push_at K) := by
  refine df_F T.F_push_at T.g_push_at T.B_push_at sc_push_at (fun _ => rfl) (fun a => [some (PCr K a.1), some (PI a.2), none]) (fun _ => rfl) fun cdv A' outer s H E hr => ⟨_, (pss_cons (ps_for PassesOwn.never rfl (pi_tup (pe_fld (pv 0) rfl)) (pg_name (i := 2) sc_push_at.nd rfl (by first | exact Or.inl rfl | exact Or.inr rfl)) (pss_one (ps_if (pt_chain op_le op_lt (pe_fld (pv 2) rfl) (pv 1) (pe_fld (pv 2) rfl)) (pss_one (ps_ret (pe_fld (pv 2) rfl))) pss_nil)))
    (pss_one (ps_ret (pe_glob (v := .ref _) rfl T.g_NOTHING rfl)))), ?_⟩
  intro a pre B0 z D ok kr kn
  obtain ⟨c, t⟩ := a
  refine sq (st_forTm c.burns (PBu K) (fun i (_ : Unit) => (c.burns.take i).find? (fun b => decide (b.b ≤ t) && decide (t < b.e)) = none) (fun _ _ => [some (PCr K c), some (PI t), none]) (fun y _ _ => [some (PCr K c), some (PI t), some (PBu K y)]) (fun _ _ => none) () rfl ok (g_fld (g_var rfl) T.cl_Craft T.na_Craft_burns rfl) (fun y i x => tg_name) (fun C0 C up i y x hy r s' H' ok1 N hN => ?_) (fun x s' H' r ok1 => ?_))
  · refine st_if ok1 (tt_chain (g_fld (g_var rfl) T.cl_Burn T.na_Burn_begin rfl) (g_var rfl) r_I0 (fun _ => g_fld (g_var rfl) T.cl_Burn T.na_Burn_end rfl) r_I0) (fun hb H2 ok2 => ?_) fun hb H2 ok2 => ?_
    · refine st_retE (up ok2) (g_fld (g_var rfl) T.cl_Burn T.na_Burn_push rfl) (congrArg (PBox K) (show pushAt c.burns t = _ from ?_)) kr
      unfold pushAt
      rw [find_here r hy hb]
    · exact hN _ _ () (find_next r hy hb) (ok2.forget [2])
  · rw [List.take_length] at r
    refine st_retE ok1 (g_cd T.r_NOTHING) (congrArg (PBox K) (show pushAt c.burns t = zeroB from ?_)) kr
    unfold pushAt
    rw [r]
abbrev sp_sighting_at (K : PySem.W.Frag) : Sp := spF (fun a : Cr × Int => [PCr K a.1, PI a.2]) (fun _ => True) fun a => popt (seenAt a.1.sights a.2) (PBox K)
theorem g_sighting_at {c : Cr} {t : Int} (ha : EvG ta G (PCr K c)) (hb : EvG tb G (PI t)) : EvG (tCall (sp_sighting_at K) [] E (tCons ta (tCons tb tNil))) G (popt (seenAt c.sights t) (PBox K)) := g_callF (args := fun a : Cr × Int => [PCr K a.1, PI a.2]) (res := fun a : Cr × Int => popt (seenAt a.1.sights a.2) (PBox K)) (c, t) trivial (a_cons ha (a_cons hb a_nil))
theorem d_sighting_at (T : Tx w K mg) : Df P w K mg base CX0 1 "sighting_at" ["craft", "at"] (sp_sighting_at K) := by
  refine df_F T.F_sighting_at T.g_sighting_at T.B_sighting_at sc_sighting_at (fun _ => rfl) (fun a => [some (PCr K a.1), some (PI a.2), none]) (fun _ => rfl) fun cdv A' outer s H E hr => ⟨_, (pss_cons (ps_for PassesOwn.never rfl (pi_tup (pe_fld (pv 0) rfl)) (pg_name (i := 2) sc_sighting_at.nd rfl (by first | exact Or.inl rfl | exact Or.inr rfl)) (pss_one (ps_if (pt_cmpR op_eq (pe_fld (pv 2) rfl) (pv 1) (nomark _)) (pss_one (ps_ret (pe_fld (pv 2) rfl))) pss_nil)))
    (pss_one (ps_ret pe_non))), ?_⟩
  intro a pre B0 z D ok kr kn
  obtain ⟨c, t⟩ := a
  refine sq (st_forTm c.sights (PSg K) (fun i (_ : Unit) => (c.sights.take i).find? (fun s => decide (s.t = t)) = none) (fun _ _ => [some (PCr K c), some (PI t), none]) (fun y _ _ => [some (PCr K c), some (PI t), some (PSg K y)]) (fun _ _ => none) () rfl ok (g_fld (g_var rfl) T.cl_Craft T.na_Craft_sightings rfl) (fun y i x => tg_name) (fun C0 C up i y x hy r s' H' ok1 N hN => ?_) (fun x s' H' r ok1 => ?_))
  · refine st_if ok1 (t_test (g_op (g_fld (g_var rfl) T.cl_Sighting T.na_Sighting_at rfl) (g_var rfl) (r_eq rfl))) (fun hb H2 ok2 => ?_) fun hb H2 ok2 => ?_
    · have e : y.t = t := V.int.inj (of_decide_eq_true hb)
      refine st_retE (up ok2) (g_fld (g_var rfl) T.cl_Sighting T.na_Sighting_place rfl) (congrArg (fun o => popt o (PBox K)) (show seenAt c.sights t = some y.place from ?_)) kr
      unfold seenAt
      rw [find_here r hy (decide_eq_true e)]
      rfl
    · have e : ¬ y.t = t := fun z => of_decide_eq_false hb (congrArg V.int z)
      exact hN _ _ () (find_next r hy (decide_eq_false e)) (ok2.forget [2])
  · rw [List.take_length] at r
    refine st_retE ok1 g_c (congrArg (fun o => popt o (PBox K)) (show seenAt c.sights t = none from ?_)) kr
    unfold seenAt
    rw [r]
    rfl
/-! #### cut_all, first_states -/
abbrev sp_cut_all (K : PySem.W.Frag) : Sp := spF (fun a : List Sta × Option Box => [PStas K a.1, popt a.2 (PBox K)]) (fun a => a.1.length ≤ 1000) fun a => PStas K (cutAll a.1 a.2)
theorem g_cut_all {ss : List Sta} {o : Option Box} (ha : EvG ta G (PStas K ss)) (hb : EvG tb G (popt o (PBox K))) (h : ss.length ≤ 1000) : EvG (tCall (sp_cut_all K) [] E (tCons ta (tCons tb tNil))) G (PStas K (cutAll ss o)) := g_callF (args := fun a : List Sta × Option Box => [PStas K a.1, popt a.2 (PBox K)]) (res := fun a : List Sta × Option Box => PStas K (cutAll a.1 a.2)) (ss, o) h (a_cons ha (a_cons hb a_nil))
theorem d_cut_all (T : Tx w K mg) : Df P w K mg base CX0 4 "cut_all" ["states", "box"] (sp_cut_all K) := by
  have G_cut := d_cut (P := P) (base := base) T
  refine df_F T.F_cut_all T.g_cut_all T.B_cut_all sc_cut_all (fun _ => rfl) (fun a => [some (PStas K a.1), some (popt a.2 (PBox K)), none, none, none]) (fun _ => rfl) fun cdv A' outer s H E hr => ⟨_, (pss_cons (ps_if (pt_cmpR op_isN (pv 1) pe_non (nomark _)) (pss_one (ps_ret (pe_callTy call_list_of rfl T.n_list (by decide +kernel) (pa_cons (pv 0) pa_nil)))) pss_nil)
    (pss_cons (ps_set (i := 2) sc_cut_all.nd rfl (by first | exact Or.inl rfl | exact Or.inr rfl) (pe_lst pa_nil))
    (pss_cons (ps_for PassesOwn.never rfl (pi_list (pv 0)) (pg_name (i := 3) sc_cut_all.nd rfl (by first | exact Or.inl rfl | exact Or.inr rfl)) (pss_cons (ps_set (i := 4) sc_cut_all.nd rfl (by first | exact Or.inl rfl | exact Or.inr rfl) (pe_d G_cut hr (pa_cons (pv 3) (pa_cons (pv 1) pa_nil))))
    (pss_one (ps_if (pt_cmpR op_notN (pv 4) pe_non (nomark _)) (pss_one (ps_expr (pe_bm PySem.F.plainAttrs_list PySem.F.slot_list_append PySem.F.type_list_append mt_append (pv 2) (pa_cons (pv 4) pa_nil)))) pss_nil))))
    (pss_one (ps_ret (pv 2)))))), ?_⟩
  intro a pre B0 z D ok kr kn
  obtain ⟨ss, o⟩ := a
  have pre : ss.length ≤ 1000 := pre
  cases o with
  | none =>
    refine sq_if0 ok (t_test (g_isN (k := true) (g_var rfl) fun _ _ h => popt_non h)) (fun hb H2 ok2 => ?_) fun hb H2 ok2 => nomatch hb
    exact st_ret ok2 (g_cb (a_cons (EvG.imp (g_var rfl) fun _ _ => pq_l) a_nil) r_list) kr
  | some b =>
    refine sq_if0 ok (t_test (g_isN (k := false) (g_var rfl) fun _ _ h => popt_non h)) (fun hb H2 ok2 => nomatch hb) fun hb H2 ok2 => ?_
    refine sq_own ok2 a_nil fun l z3 H3 ok3 => ?_
    refine sq (st_forLm ss (PSta K) (fun i (_ : Unit) => True) (fun _ _ => [some (PStas K ss), some (PBox K b), some (PV (.ref l)), none, none]) (fun y _ _ => [some (PStas K ss), some (PBox K b), some (PV (.ref l)), some (PSta K y), none])
      (fun i _ => some (owL l (((ss.take i).filterMap fun s => cutS s b).map (PSta K)))) () trivial ok3 (g_var rfl) (fun y i x => tg_name) (fun C0 C up i y x hy r s' H' ok4 N hN => ?_) (fun x s' H' r ok4 => ?_))
    · refine sq_asg ok4 (g_cut (g_var rfl) (g_var rfl)) fun z5 H5 ok5 => ?_
      have et : (ss.take (i + 1)).filterMap (fun s => cutS s b) = (ss.take i).filterMap (fun s => cutS s b) ++ ([y]).filterMap fun s => cutS s b := by
        rw [take_at hy, List.filterMap_append]
      have hl : (((ss.take i).filterMap fun s => cutS s b).map (PSta K)).length < 100000 := by
        have h1 := List.length_filterMap_le (fun s => cutS s b) (ss.take i)
        rw [List.length_take] at h1
        rw [List.length_map]
        omega
      revert ok5
      show OkS C0 C [some (PStas K ss), some (PBox K b), some (PV (.ref l)), some (PSta K y), some (popt (cutS y b) (PSta K))] _ z5 H5 → _
      cases q : cutS y b with
      | none =>
        intro ok5
        refine st_if ok5 (t_test (g_notN (k := true) (g_var rfl) fun _ _ h => popt_nonO h)) (fun hb H2 ok2 => nomatch hb) fun hb H6 ok6 => ?_
        refine hN _ _ () trivial ?_
        rw [et, List.filterMap_cons_none (f := fun s => cutS s b) q, List.filterMap_nil, List.append_nil]
        exact ok6.forget [3, 4]
      | some x2 =>
        intro ok5
        refine st_if ok5 (t_test (g_notN (k := false) (g_var rfl) fun _ _ h => popt_nonO h)) (fun hb H6 ok6 => ?_) fun hb H6 ok6 => nomatch hb
        refine st_app ok6 (g_var rfl) (d := PSta K x2) (g_var rfl) hl fun H7 ok7 => hN _ _ () trivial ?_
        rw [et, List.filterMap_cons_some (f := fun s => cutS s b) q, List.filterMap_nil, List.map_append]
        exact ok7.forget [3, 4]
    · rw [List.take_length] at ok4
      have ok5 := OkS.freezeL (i := 2) ok4 rfl
      exact st_ret ok5 (g_var rfl) kr
abbrev sp_first_states (K : PySem.W.Frag) : Sp := spF (fun a : Nat × Cr => [PI (a.1 : Int), PCr K a.2]) (fun a => a.1 ≤ 6) fun a => PStas K (firstS a.1 a.2)
theorem g_first_states {n : Nat} {c : Cr} (ha : EvG ta G (PI (n : Int))) (hb : EvG tb G (PCr K c)) (h : n ≤ 6) : EvG (tCall (sp_first_states K) [] E (tCons ta (tCons tb tNil))) G (PStas K (firstS n c)) := g_callF (args := fun a : Nat × Cr => [PI (a.1 : Int), PCr K a.2]) (res := fun a : Nat × Cr => PStas K (firstS a.1 a.2)) (n, c) h (a_cons ha (a_cons hb a_nil))
theorem d_first_states (T : Tx w K mg) : Df P w K mg base CX0 5 "first_states" ["fineness", "craft"] (sp_first_states K) := by
  have G_cut_all := d_cut_all (P := P) (base := base) T
  have G_parts_of := d_parts_of (P := P) (base := base) T
  have G_sighting_at := d_sighting_at (P := P) (base := base) T
  have G_State := d_State (P := P) (base := base) T
  refine df_F T.F_first_states T.g_first_states T.B_first_states sc_first_states (fun _ => rfl) (fun a => [some (PI (a.1 : Int)), some (PCr K a.2)]) (fun _ => rfl) fun cdv A' outer s H E hr => ⟨_, (pss_one (ps_ret (pe_d G_cut_all hr (pa_cons (pe_d G_parts_of hr (pa_cons (pe_k G_State hr (pa_cons (pe_fld (pv 1) rfl) (pa_cons (pe_fld (pv 1) rfl) pa_nil))) (pa_cons (pv 0) pa_nil))) (pa_cons (pe_d G_sighting_at hr (pa_cons (pv 1) (pa_cons (pe_fld (pv 1) rfl) pa_nil))) pa_nil))))), ?_⟩
  intro a pre B0 z D ok kr kn
  obtain ⟨n, c⟩ := a
  have pre : n ≤ 6 := pre
  have hl : (partsS (c.place, c.speed) n).length ≤ 1000 := Nat.le_trans (partsS_len _ n) (Nat.le_trans (Nat.pow_le_pow_right (by decide) pre) (by decide))
  exact st_ret ok (g_cut_all (g_parts_of (g_State (g_fld (g_var rfl) T.cl_Craft T.na_Craft_place rfl) (g_fld (g_var rfl) T.cl_Craft T.na_Craft_speed rfl)) (g_var rfl) pre) (g_sighting_at (g_var rfl) (g_fld (g_var rfl) T.cl_Craft T.na_Craft_start rfl)) hl) kr
end
end K9
set_option Elab.async false
set_option linter.all false
set_option maxRecDepth 100000
set_option maxHeartbeats 4000000
/-! K9D3: courses: Piece, Course, next_rows, course. -/
namespace K9
open PySem PySem.Spec PyProof.Rows L2
section
variable {K : PySem.W.Frag} {B0 B : Hp} {G : Cn} {W : Option Ow} {s : L2.St} {H : Hp} {D : Ends} {tt : TT} {tu tw tb rest : TS}
/-- both ways meet -/
theorem sq_ifM {b : Bool} (G' : Cn) (W' : Option Ow) (h : OkS B0 B G W s H) (ev : EvT tt G b) (h1 : b = true → ∀ H', OkS B0 B G W s H' → ∀ N : L2.St → Hp → Prop, (∀ s2 H2, OkS B0 B G' W' s2 H2 → N s2 H2) → tu { D with nx := N } s H')
    (h2 : b = false → ∀ H', OkS B0 B G W s H' → ∀ N : L2.St → Hp → Prop, (∀ s2 H2, OkS B0 B G' W' s2 H2 → N s2 H2) → tw { D with nx := N } s H') (k : ∀ s2 H2, OkS B0 B G' W' s2 H2 → rest D s2 H2) : tSeq (tIfS tt tu tw) rest D s H :=
  sq_if h ev (fun e H' ok => h1 e H' ok _ k) (fun e H' ok => h2 e H' ok _ k)
/-- while -/
theorem st_while {A : Type} (R : Nat → A → Prop) (Gs : A → Cn) (Ws : A → Option Ow) (b : A → Bool) (m0 : Nat) (x0 : A) (r0 : R m0 x0) (h : OkS B0 B (Gs x0) (Ws x0) s H) (ht : ∀ m x, R m x → EvT tt (Gs x) (b x))
    (body : ∀ m x, R m x → b x = true → ∀ s' H', OkS B0 B (Gs x) (Ws x) s' H' → ∀ N : L2.St → Hp → Prop, (∀ s2 H2 m' y, m' < m → R m' y → OkS B0 B (Gs y) (Ws y) s2 H2 → N s2 H2) → tb { D with nx := N, ct := N, bk := D.nx } s' H')
    (k : ∀ m x s' H', R m x → b x = false → OkS B0 B (Gs x) (Ws x) s' H' → D.nx s' H') : tWhile tt tb D s H := by
  refine ⟨fun m s H => ∃ x, R m x ∧ OkS B0 B (Gs x) (Ws x) s H, ⟨m0, x0, r0, h⟩, fun m s H ⟨x, r, ok⟩ => ok.evT (ht m x r) fun H' ok' => ?_⟩
  cases q : b x with
  | true => exact ⟨fun s2 H2 => ∃ m' y, m' < m ∧ R m' y ∧ OkS B0 B (Gs y) (Ws y) s2 H2, fun s2 H2 ⟨m', y, h1, h2, h3⟩ => ⟨m', h1, y, h2, h3⟩, body m x r q s H' ok' _ fun s2 H2 m' y h1 h2 h3 => ⟨m', y, h1, h2, h3⟩⟩
  | false => exact k m x s H' r q ok'
end
section
variable {K : PySem.W.Frag} {G : Cn} {tl te : TE} {g : TG} {vs : List Nat}
theorem mapc {A B C : Type} {xs : List A} {f : A → B} {g : B → C} : xs.map (fun x => g (f x)) = (xs.map f).map g := (List.map_map).symm
theorem filt {A : Type} (xs : List A) : xs.filter (fun _ => true) = xs := List.filter_eq_self.mpr fun _ _ => rfl
theorem g_lcL0 {A : Type} (xs : List A) (f e : A → Dn) (Gx : A → Cn) (hl : EvG tl G (PL (xs.map f))) (hlen : xs.length ≤ 100000) (tg : ∀ x, x ∈ xs → TgC g vs (wipeD G vs) (f x) (Gx x))
    (he : ∀ x, x ∈ xs → EvG te (Gx x) (e x)) : EvG (tLc (iList K tl) g tYes te vs) G (PL (xs.map e)) := (g_lcL xs f e (fun _ => true) Gx hl hlen tg (fun _ _ => t_yes) fun x hx _ => he x hx).is (by rw [filt])
theorem g_lcT0 {A : Type} (xs : List A) (f e : A → Dn) (Gx : A → Cn) (hl : EvG tl G (PT K (xs.map f))) (hlen : xs.length ≤ 100000) (tg : ∀ x, x ∈ xs → TgC g vs (wipeD G vs) (f x) (Gx x))
    (he : ∀ x, x ∈ xs → EvG te (Gx x) (e x)) : EvG (tLc (iTup K tl) g tYes te vs) G (PL (xs.map e)) := (g_lcT xs f e (fun _ => true) Gx hl hlen tg (fun _ _ => t_yes) fun x hx _ => he x hx).is (by rw [filt])
end
theorem nextL_none {bd : Bd} {c : Cr} {t : Int} {r : Row} (e : goS bd c t r.1 = none) : ∀ {xs : List Row}, r ∈ xs → nextL bd c t xs = none
  | x :: xs, h => by
    unfold nextL
    rcases List.mem_cons.mp h with z | h
    · subst z
      rw [e]
    · rw [nextL_none e h]
      cases goS bd c t x.1 with
      | none => rfl
      | some o => cases o <;> rfl
theorem nextL_skip {bd : Bd} {c : Cr} {t : Int} {r : Row} (e : goS bd c t r.1 = some none) : ∀ {xs l : List Row}, nextL bd c t xs = some l → nextL bd c t (xs ++ [r]) = some l
  | [], l, h => by
    show nextL bd c t (r :: []) = _
    unfold nextL
    rw [e]
    exact h
  | x :: xs, l, h => by
    rw [List.cons_append]
    unfold nextL at h ⊢
    cases q : goS bd c t x.1 with
    | none =>
      rw [q] at h
      cases h
    | some o =>
      cases q2 : nextL bd c t xs with
      | none =>
        rw [q, q2] at h
        cases o <;> cases h
      | some l' =>
        rw [nextL_skip e q2]
        rw [q, q2] at h
        exact h
theorem nextL_snoc {bd : Bd} {c : Cr} {t : Int} {r : Row} {s2 : Sta} (e : goS bd c t r.1 = some (some s2)) : ∀ {xs l : List Row}, nextL bd c t xs = some l → nextL bd c t (xs ++ [r]) = some (l ++ [(s2, hullB r.2 s2.1)])
  | [], l, h => by
    have h' : [] = l := Option.some.inj h
    subst h'
    show nextL bd c t (r :: []) = _
    unfold nextL
    rw [e]
    rfl
  | x :: xs, l, h => by
    rw [List.cons_append]
    unfold nextL at h ⊢
    cases q : goS bd c t x.1 with
    | none =>
      rw [q] at h
      cases h
    | some o =>
      cases q2 : nextL bd c t xs with
      | none =>
        rw [q, q2] at h
        cases o <;> cases h
      | some l' =>
        rw [nextL_snoc e q2]
        rw [q, q2] at h
        cases o with
        | none =>
          have h' := Option.some.inj h
          subst h'
          rfl
        | some s =>
          have h' := Option.some.inj h
          subst h'
          rfl
section
variable {P : Program} {w : World} {K : PySem.W.Frag} {mg : Str → Option Value} {base : Heap} {G : Cn} {ta tb tc td : TE} {E : XK}
abbrev sp_Piece (K : PySem.W.Frag) : Sp := spI (He.ga K "Piece") (fun p : Pc => [PI p.b, PI p.e, PL (p.parts.map (PBox K))]) (fun _ => True) fun p => [("begin", PI p.b), ("end", PI p.e), ("parts", PT K (p.parts.map (PBox K)))]
theorem d_Piece (T : Tx w K mg) : Dc P w K mg base CX0 1 "Piece" (He.ga K "Piece") ["self", "begin", "end", "parts"] [] (sp_Piece K) := by
  refine dc_I T.F_Piece_init T.g_Piece T.mk_Piece T.B_Piece_init .nil sc_Piece_init (fun _ => rfl) (fun p v => [some (PV v), some (PI p.b), some (PI p.e), some (PL (p.parts.map (PBox K)))]) (fun _ _ => rfl) fun cdv A' outer s H E hr => ⟨_, (pss_cons (ps_fld (pv 0) (pv 1) rfl)
    (pss_cons (ps_fld (pv 0) (pv 2) rfl)
    (pss_one (ps_fld (pv 0) (pe_callTy call_tuple_of rfl T.n_tuple (by decide +kernel) (pa_cons (pv 3) pa_nil)) rfl)))), ?_⟩
  intro a pre B0 B p dx z D ok kn
  refine sq_fld ok (g_var rfl) (g_var rfl) T.cl_Piece T.na_Piece_begin (Nat.le_of_ble_eq_true rfl) rfl fun H1 ok1 => ?_
  refine sq_fld ok1 (g_var rfl) (g_var rfl) T.cl_Piece T.na_Piece_end (Nat.le_of_ble_eq_true rfl) rfl fun H1 ok1 => ?_
  exact st_fld ok1 (g_cb (a_cons (EvG.imp (g_var rfl) fun _ _ => pq_l) a_nil) r_tuple) (g_var rfl) T.cl_Piece T.na_Piece_parts (Nat.le_of_ble_eq_true rfl) rfl fun H2 ok2 => kn _ _ _ ok2
theorem g_Piece {b e : Int} {ps : List Box} (ha : EvG ta G (PI b)) (hb : EvG tb G (PI e)) (hc : EvG tc G (PL (ps.map (PBox K)))) : EvG (tMake (He.ga K "Piece") (sp_Piece K) [] E (tCons ta (tCons tb (tCons tc tNil)))) G (PPc K ⟨b, e, ps⟩) := g_make (args := fun p : Pc => [PI p.b, PI p.e, PL (p.parts.map (PBox K))]) ⟨b, e, ps⟩ trivial [_, _, _] [] [] rfl (fun _ => trivial) (a_cons ha (a_cons hb (a_cons hc a_nil)))
abbrev sp_Course (K : PySem.W.Frag) : Sp := spI (He.ga K "Course") (fun p : Co => [PL (p.1.map (PPc K)), PS p.2]) (fun _ => True) fun p => [("pieces", PL (p.1.map (PPc K))), ("ending", PS p.2)]
theorem d_Course (T : Tx w K mg) : Dc P w K mg base CX0 1 "Course" (He.ga K "Course") ["self", "pieces", "ending"] [] (sp_Course K) := by
  refine dc_I T.F_Course_init T.g_Course T.mk_Course T.B_Course_init .nil sc_Course_init (fun _ => rfl) (fun p v => [some (PV v), some (PL (p.1.map (PPc K))), some (PS p.2)]) (fun _ _ => rfl) fun cdv A' outer s H E hr => ⟨_, (pss_cons (ps_fld (pv 0) (pe_callTy call_list_of rfl T.n_list (by decide +kernel) (pa_cons (pv 1) pa_nil)) rfl)
    (pss_one (ps_fld (pv 0) (pv 2) rfl))), ?_⟩
  intro a pre B0 B p dx z D ok kn
  refine sq_fld ok (g_cb (a_cons (EvG.imp (g_var rfl) fun _ _ => pq_l) a_nil) r_list) (g_var rfl) T.cl_Course T.na_Course_pieces (Nat.le_of_ble_eq_true rfl) rfl fun H1 ok1 => ?_
  exact st_fld ok1 (g_var rfl) (g_var rfl) T.cl_Course T.na_Course_ending (Nat.le_of_ble_eq_true rfl) rfl fun H2 ok2 => kn _ _ _ ok2
theorem g_Course {ps : List Pc} {e : Str} (ha : EvG ta G (PL (ps.map (PPc K)))) (hb : EvG tb G (PS e)) : EvG (tMake (He.ga K "Course") (sp_Course K) [] E (tCons ta (tCons tb tNil))) G (PCo K (ps, e)) := g_make (args := fun p : Co => [PL (p.1.map (PPc K)), PS p.2]) (ps, e) trivial [_, _] [] [] rfl (fun _ => trivial) (a_cons ha (a_cons hb a_nil))
abbrev PNx (K : PySem.W.Frag) (r : List Row × Str) : Dn := PT K [PL (r.1.map (PRow K)), PS r.2]
structure NxA where
  b : Bd
  c : Cr
  t : Int
  rows : List Row
abbrev nxArgs (K : PySem.W.Frag) (a : NxA) : List Dn := [PBd K a.b, PCr K a.c, PI a.t, PL (a.rows.map (PRow K))]
abbrev sp_next_rows (K : PySem.W.Frag) : Sp := spF (nxArgs K) (fun a => okBd a.b ∧ okC a.c ∧ okR a.rows) fun a => PNx K (nextR a.b a.c a.t a.rows)
theorem g_next_rows {b : Bd} {c : Cr} {t : Int} {rows : List Row} (ha : EvG ta G (PBd K b)) (hb : EvG tb G (PCr K c)) (hc : EvG tc G (PI t)) (hd : EvG td G (PL (rows.map (PRow K)))) (h : okBd b ∧ okC c ∧ okR rows) : EvG (tCall (sp_next_rows K) [] E (tCons ta (tCons tb (tCons tc (tCons td tNil))))) G (PNx K (nextR b c t rows)) :=
  g_callF (args := nxArgs K) (res := fun a : NxA => PNx K (nextR a.b a.c a.t a.rows)) ⟨b, c, t, rows⟩ h (a_cons ha (a_cons hb (a_cons hc (a_cons hd a_nil))))
theorem d_next_rows (T : Tx w K mg) : Df P w K mg base CX0 5 "next_rows" ["body", "craft", "at", "rows"] (sp_next_rows K) := by
  have G_push_at := d_push_at (P := P) (base := base) T
  have G_sighting_at := d_sighting_at (P := P) (base := base) T
  have G_step := d_step (P := P) (base := base) T
  have G_cut := d_cut (P := P) (base := base) T
  have G_box_hull := d_box_hull (P := P) (base := base) T
  refine df_F T.F_next_rows T.g_next_rows T.B_next_rows sc_next_rows (fun _ => rfl) (fun a => [some (PBd K a.b), some (PCr K a.c), some (PI a.t), some (PL (a.rows.map (PRow K))), none, none, none, none, none, none]) (fun _ => rfl) fun cdv A' outer s H E hr => ⟨_, (pss_cons (ps_set (i := 4) sc_next_rows.nd rfl (by first | exact Or.inl rfl | exact Or.inr rfl) (pe_d G_push_at hr (pa_cons (pv 1) (pa_cons (pv 2) pa_nil))))
    (pss_cons (ps_set (i := 5) sc_next_rows.nd rfl (by first | exact Or.inl rfl | exact Or.inr rfl) (pe_d G_sighting_at hr (pa_cons (pv 1) (pa_cons (pe_op op_add (pv 2) pe_int) pa_nil))))
    (pss_cons (ps_set (i := 6) sc_next_rows.nd rfl (by first | exact Or.inl rfl | exact Or.inr rfl) (pe_lst pa_nil))
    (pss_cons (ps_for PassesOwn.never rfl (pi_list (pv 3)) (pg_tup rfl (pgs_cons (pg_name (i := 7) sc_next_rows.nd rfl (by first | exact Or.inl rfl | exact Or.inr rfl)) (pgs_cons (pg_name (i := 8) sc_next_rows.nd rfl (by first | exact Or.inl rfl | exact Or.inr rfl)) pgs_nil))) (pss_cons (ps_set (i := 9) sc_next_rows.nd rfl (by first | exact Or.inl rfl | exact Or.inr rfl) (pe_d G_step hr (pa_cons (pv 0) (pa_cons (pv 7) (pa_cons (pv 4) (pa_cons (pe_fld (pv 1) rfl) pa_nil))))))
    (pss_cons (ps_if (pt_cmpR op_isN (pv 9) pe_non (nomark _)) (pss_one (ps_ret (pe_tup (pa_cons (pe_lst pa_nil) (pa_cons pe_str pa_nil))))) pss_nil)
    (pss_cons (ps_if (pt_cmpR op_notN (pv 5) pe_non (nomark _)) (pss_one (ps_set (i := 9) sc_next_rows.nd rfl (by first | exact Or.inl rfl | exact Or.inr rfl) (pe_d G_cut hr (pa_cons (pv 9) (pa_cons (pv 5) pa_nil))))) pss_nil)
    (pss_one (ps_if (pt_cmpR op_notN (pv 9) pe_non (nomark _)) (pss_one (ps_expr (pe_bm PySem.F.plainAttrs_list PySem.F.slot_list_append PySem.F.type_list_append mt_append (pv 6) (pa_cons (pe_tup (pa_cons (pv 9) (pa_cons (pe_d G_box_hull hr (pa_cons (pv 8) (pa_cons (pe_fld (pv 9) rfl) pa_nil))) pa_nil))) pa_nil)))) pss_nil))))))
    (pss_cons (ps_if (pt_cmpR op_eq (pe_callB call_len_seq rfl T.n_len PySem.boot_len (pa_cons (pv 6) pa_nil)) pe_int (nomark _)) (pss_one (ps_ret (pe_tup (pa_cons (pe_lst pa_nil) (pa_cons pe_str pa_nil))))) pss_nil)
    (pss_one (ps_ret (pe_tup (pa_cons (pv 6) (pa_cons pe_str pa_nil)))))))))), ?_⟩
  intro a pre B0 z D ok kr kn
  obtain ⟨b, c, t, rows⟩ := a
  obtain ⟨p1, p2, p3, p4⟩ := pre
  have p3 : ∀ r ∈ rows, okS r.1 := p3
  have p4 : rows.length ≤ 64 := p4
  refine sq_asg ok (g_push_at (g_var rfl) (g_var rfl)) fun z1 H1 ok1 => ?_
  refine sq_asg ok1 (g_sighting_at (g_var rfl) (g_I0 (g_var rfl) g_c)) fun z2 H2 ok2 => ?_
  refine sq_own ok2 a_nil fun l z3 H3 ok3 => ?_
  refine sq (st_forLm rows (PRow K) (fun i (x : List Row) => nextL b c t (rows.take i) = some x ∧ x.length ≤ i)
    (fun _ _ => [some (PBd K b), some (PCr K c), some (PI t), some (PL (rows.map (PRow K))), some (PBox K (pushAt c.burns t)), some (popt (seenAt c.sights (t + 1)) (PBox K)), some (PV (.ref l)), none, none, none])
    (fun y _ _ => [some (PBd K b), some (PCr K c), some (PI t), some (PL (rows.map (PRow K))), some (PBox K (pushAt c.burns t)), some (popt (seenAt c.sights (t + 1)) (PBox K)), some (PV (.ref l)), some (PSta K y.1), some (PBox K y.2), none])
    (fun _ x => some (owL l (x.map (PRow K)))) [] ⟨rfl, Nat.le_refl _⟩ ok3 (g_var rfl) (fun y i x => tg_tup (tgs_cons tg_name (tgs_cons tg_name tgs_nil))) (fun C0 C up i y x hy r s' H' ok4 N hN => ?_) (fun x s' H' r ok4 => ?_))
  · obtain ⟨r, rl⟩ := r
    have hm := List.mem_of_getElem? hy
    have hlt := at_lt hy
    have hl : (x.map (PRow K)).length < 100000 := by
      rw [List.length_map]
      omega
    refine sq_asg ok4 (g_step (g_var rfl) (g_var rfl) (g_var rfl) (g_fld (g_var rfl) T.cl_Craft T.na_Craft_drift rfl) ⟨p1, (p3 y hm).1⟩) fun z5 H5 ok5 => ?_
    have eg : goS b c t y.1 = match stepS b.mu b.obl y.1 (pushAt c.burns t) c.drift with
      | none => none
      | some s1 => some (match seenAt c.sights (t + 1) with
        | none => some s1
        | some b => cutS s1 b) := rfl
    revert ok5
    show OkS C0 C [some (PBd K b), some (PCr K c), some (PI t), some (PL (rows.map (PRow K))), some (PBox K (pushAt c.burns t)), some (popt (seenAt c.sights (t + 1)) (PBox K)), some (PV (.ref l)), some (PSta K y.1), some (PBox K y.2), some (popt (stepS b.mu b.obl y.1 (pushAt c.burns t) c.drift) (PSta K))] _ z5 H5 → _
    cases q : stepS b.mu b.obl y.1 (pushAt c.burns t) c.drift with
    | none =>
      intro ok5
      rw [q] at eg
      refine sq_if0 ok5 (t_test (g_isN (k := true) (g_var rfl) fun _ _ h => popt_nonO h)) (fun hb H6 ok6 => ?_) fun hb H6 ok6 => nomatch hb
      refine st_retE (up ok6) (g_tup (a_cons (g_lst a_nil) (a_cons g_c a_nil))) (congrArg (PNx K) (show nextR b c t rows = ([], sLost) from ?_)) kr
      unfold nextR
      rw [nextL_none eg hm]
    | some s1 =>
      intro ok5
      rw [q] at eg
      refine sq_if0 ok5 (t_test (g_isN (k := false) (g_var rfl) fun _ _ h => popt_nonO h)) (fun hb H6 ok6 => nomatch hb) fun hb H6 ok6 => ?_
      obtain ⟨o, ho⟩ : ∃ o : Option Sta, (match seenAt c.sights (t + 1) with
        | none => some s1
        | some b => cutS s1 b : Option Sta) = o := ⟨_, rfl⟩
      have eg : goS b c t y.1 = some o := by
        rw [← ho]
        exact eg
      refine sq_ifM [some (PBd K b), some (PCr K c), some (PI t), some (PL (rows.map (PRow K))), some (PBox K (pushAt c.burns t)), some (popt (seenAt c.sights (t + 1)) (PBox K)), some (PV (.ref l)), some (PSta K y.1), some (PBox K y.2), some (popt o (PSta K))] (some (owL l (x.map (PRow K)))) ok6
        (t_test (g_notN (g_var rfl) fun _ _ h => popt_non h)) (fun hb H7 ok7 N2 hN2 => ?_) (fun hb H7 ok7 N2 hN2 => ?_) fun z8 H8 ok8 => ?_
      · revert ok7
        cases q2 : seenAt c.sights (t + 1) with
        | none =>
          rw [q2] at hb
          cases hb
        | some bx =>
          intro ok7
          rw [q2] at ho hN2
          subst ho
          exact st_asg ok7 (g_cut (s := s1) (b := bx) (g_var rfl) (g_var rfl)) fun z8 H8 ok8 => hN2 _ _ ok8
      · cases q2 : seenAt c.sights (t + 1) with
        | none =>
          rw [q2] at ho ok7 hN2
          subst ho
          exact hN2 _ _ ok7
        | some bx =>
          rw [q2] at hb
          cases hb
      · cases o with
        | none =>
          refine st_if ok8 (t_test (g_notN (k := true) (g_var rfl) fun _ _ h => popt_nonO h)) (fun hb H9 ok9 => nomatch hb) fun hb H9 ok9 => ?_
          refine hN _ _ x ⟨?_, by omega⟩ (ok9.forget [7, 8, 9])
          rw [take_at hy]
          exact nextL_skip eg r
        | some s2 =>
          refine st_if ok8 (t_test (g_notN (k := false) (g_var rfl) fun _ _ h => popt_nonO h)) (fun hb H9 ok9 => ?_) fun hb H9 ok9 => nomatch hb
          refine st_app ok9 (g_var rfl) (d := PRow K (s2, hullB y.2 s2.1)) (g_tup (a_cons (g_var rfl) (a_cons (g_box_hull (g_var rfl) (g_fld (g_var rfl) T.cl_State T.na_State_place rfl)) a_nil))) hl fun H10 ok10 => hN _ _ (x ++ [(s2, hullB y.2 s2.1)]) ⟨?_, by rw [List.length_append, List.length_singleton]; omega⟩ ?_
          · rw [take_at hy]
            exact nextL_snoc eg r
          · rw [List.map_append]
            exact ok10.forget [7, 8, 9]
  · obtain ⟨r, rl⟩ := r
    rw [List.take_length] at r
    have ok5 := OkS.freezeL (i := 6) ok4 rfl
    refine sq_if0 ok5 (t_test (g_op (g_cb (a_cons (g_var rfl) a_nil) r_lenL) g_c (r_eq rfl))) (fun hb H6 ok6 => ?_) fun hb H6 ok6 => ?_
    · have e : ((x.map (PRow K)).length : Int) = 0 := V.int.inj (of_decide_eq_true hb)
      rw [List.length_map] at e
      refine st_retE ok6 (g_tup (a_cons (g_lst a_nil) (a_cons g_c a_nil))) (congrArg (PNx K) (show nextR b c t rows = ([], sVoid) from ?_)) kr
      unfold nextR
      rw [r]
      exact if_pos (by omega)
    · have e : ¬ ((x.map (PRow K)).length : Int) = 0 := fun h => of_decide_eq_false hb (congrArg V.int h)
      rw [List.length_map] at e
      refine st_retE ok6 (g_tup (a_cons (g_var rfl) (a_cons g_c a_nil))) (congrArg (PNx K) (show nextR b c t rows = (x, sWhole) from ?_)) kr
      unfold nextR
      rw [r]
      exact if_neg (by omega)
/-! #### course -/
structure CoA where
  ct : Ct
  c : Cr
  u : Int
structure CgS where
  b : Int
  t : Int
  rows : List Row
  ps : List Pc
abbrev coArgs (K : PySem.W.Frag) (a : CoA) : List Dn := [PCt K a.ct, PCr K a.c, PI a.u]
/-- what a course asks -/
structure okA (a : CoA) : Prop where
  b : okBd a.ct.body
  c : okC a.c
  s : 1 ≤ a.ct.stride ∧ a.ct.stride ≤ 1000
  f : 0 ≤ a.ct.fine ∧ a.ct.fine ≤ 6
  st : 0 ≤ a.c.start
  u : a.u ≤ 1000
abbrev coOf (a : CoA) : Co := courseOf a.ct.body a.ct.stride a.ct.fine.toNat a.c a.u
structure CgR (a : CoA) (m : Nat) (x : CgS) : Prop where
  mm : m = (a.u + a.ct.stride - x.t).toNat + 1
  go : courseGo a.ct.body a.ct.stride a.c a.u m x.b x.t x.rows x.ps = coOf a
  ok : okR x.rows
  l1 : x.b ≤ x.t
  l2 : x.t ≤ x.b + a.ct.stride - 1
  l3 : x.b ≤ a.u
  l4 : a.c.start ≤ x.b
  l5 : (x.ps.length : Int) ≤ x.t - a.c.start
abbrev sp_course (K : PySem.W.Frag) : Sp := spF (coArgs K) okA fun a => PCo K (coOf a)
theorem g_course {a : CoA} (ha : EvG ta G (PCt K a.ct)) (hb : EvG tb G (PCr K a.c)) (hc : EvG tc G (PI a.u)) (h : okA a) : EvG (tCall (sp_course K) [] E (tCons ta (tCons tb (tCons tc tNil)))) G (PCo K (coOf a)) := g_callF (args := coArgs K) (res := fun a => PCo K (coOf a)) a h (a_cons ha (a_cons hb (a_cons hc a_nil)))
theorem okR_start {ss : List Sta} (h : ∀ s ∈ ss, okS s) (hl : ss.length ≤ 64) : okR (ss.map startRow) := ⟨fun r hr => by
  obtain ⟨s, hs, e⟩ := List.mem_map.mp hr
  rw [← e]
  exact h s hs, by rw [List.length_map]; exact hl⟩
abbrev coG (K : PySem.W.Frag) (a : CoA) (l : Addr) (x : CgS) : Cn := [some (PCt K a.ct), some (PCr K a.c), some (PI a.u), some (PV (.ref l)), none, some (PL (x.rows.map (PRow K))), some (PI x.b), some (PI x.t), none, none]
theorem d_course (T : Tx w K mg) : Df P w K mg base CX0 6 "course" ["contents", "craft", "until"] (sp_course K) := by
  have G_first_states := d_first_states (P := P) (base := base) T
  have G_next_rows := d_next_rows (P := P) (base := base) T
  have G_Piece := d_Piece (P := P) (base := base) T
  have G_Course := d_Course (P := P) (base := base) T
  refine df_F T.F_course T.g_course T.B_course sc_course (fun _ => rfl) (fun a => [some (PCt K a.ct), some (PCr K a.c), some (PI a.u), none, none, none, none, none, none, none]) (fun _ => rfl) fun cdv A' outer s H E hr => ⟨_, (pss_cons (ps_set (i := 3) sc_course.nd rfl (by first | exact Or.inl rfl | exact Or.inr rfl) (pe_lst pa_nil))
    (pss_cons (ps_if (pt_cmpR op_lt (pv 2) (pe_fld (pv 1) rfl) (nomark _)) (pss_one (ps_ret (pe_k G_Course hr (pa_cons (pv 3) (pa_cons pe_str pa_nil))))) pss_nil)
    (pss_cons (ps_setLc (i := 5) (own := [("state", 4)]) (g := (gName 4)) rfl sc_course.nd rfl rfl (sw_true rfl rfl rfl (by decide +kernel)) (pi_list (pe_d G_first_states hr (pa_cons (pe_fld (pv 0) rfl) (pa_cons (pv 1) pa_nil)))) (blkOk_by (N := N_course) (sc := defScope S_course) (by decide +kernel)) (fun _ _ _ _ _ => (pg_name (i := 4) sc_course.nd rfl (Or.inl rfl))) (fun _ _ _ _ _ => pts_nil) (fun _ _ _ _ _ => (pe_tup (pa_cons (pv 4) (pa_cons (pe_fldK (K := K) (pv 4) rfl) pa_nil)))))
    (pss_cons (ps_if (pt_cmpR op_eq (pe_callB call_len_seq rfl T.n_len PySem.boot_len (pa_cons (pv 5) pa_nil)) pe_int (nomark _)) (pss_one (ps_ret (pe_k G_Course hr (pa_cons (pv 3) (pa_cons pe_str pa_nil))))) pss_nil)
    (pss_cons (ps_set (i := 6) sc_course.nd rfl (by first | exact Or.inl rfl | exact Or.inr rfl) (pe_fld (pv 1) rfl))
    (pss_cons (ps_set (i := 7) sc_course.nd rfl (by first | exact Or.inl rfl | exact Or.inr rfl) (pv 6))
    (pss_one (ps_while PassesOwn.never (pt_val pe_bl) (pss_cons (ps_if (pt_cmpR op_eq (pv 7) (pe_op op_sub (pe_op op_add (pv 6) (pe_fld (pv 0) rfl)) pe_int) (nomark _)) (pss_cons (ps_expr (pe_bm PySem.F.plainAttrs_list PySem.F.slot_list_append PySem.F.type_list_append mt_append (pv 3) (pa_cons (pe_k G_Piece hr (pa_cons (pv 6) (pa_cons (pv 7) (pa_cons (pe_lc (own := [("state", 4), ("during", 8)]) (g := (gTup K 2 (gCons (gName 4) (gCons (gName 8) gNil)))) rfl sc_course.nd (pi_list (pv 5)) (blkOk_by (N := N_course) (sc := defScope S_course) (by decide +kernel)) (fun _ _ _ _ _ => (pg_tup rfl (pgs_cons (pg_name (i := 4) sc_course.nd rfl (Or.inl rfl)) (pgs_cons (pg_name (i := 8) sc_course.nd rfl (Or.inl rfl)) pgs_nil)))) (fun _ _ _ _ _ => pts_nil) (fun _ _ _ _ _ => (pv 8))) pa_nil)))) pa_nil)))
    (pss_one (ps_if (pt_cmpR op_le (pv 2) (pv 7) (nomark _)) (pss_one (ps_ret (pe_k G_Course hr (pa_cons (pv 3) (pa_cons pe_str pa_nil))))) pss_nil))) pss_nil)
    (pss_cons (ps_asg (pe_d G_next_rows hr (pa_cons (pe_fld (pv 0) rfl) (pa_cons (pv 1) (pa_cons (pv 7) (pa_cons (pv 5) pa_nil))))) (pg_tup rfl (pgs_cons (pg_name (i := 5) sc_course.nd rfl (by first | exact Or.inl rfl | exact Or.inr rfl)) (pgs_cons (pg_name (i := 9) sc_course.nd rfl (by first | exact Or.inl rfl | exact Or.inr rfl)) pgs_nil))))
    (pss_cons (ps_if (pt_cmpR op_ne (pv 9) pe_str (nomark _)) (pss_one (ps_ret (pe_k G_Course hr (pa_cons (pv 3) (pa_cons (pv 9) pa_nil))))) pss_nil)
    (pss_cons (ps_set (i := 7) sc_course.nd rfl (by first | exact Or.inl rfl | exact Or.inr rfl) (pe_op op_add (pv 7) pe_int))
    (pss_one (ps_if (pt_cmpR op_eq (pv 7) (pe_op op_add (pv 6) (pe_fld (pv 0) rfl)) (nomark _)) (pss_cons (ps_set (i := 6) sc_course.nd rfl (by first | exact Or.inl rfl | exact Or.inr rfl) (pv 7))
    (pss_one (ps_setLc (i := 5) (own := [("state", 4), ("during", 8)]) (g := (gTup K 2 (gCons (gName 4) (gCons (gName 8) gNil)))) rfl sc_course.nd rfl rfl (sw_true rfl rfl rfl (by decide +kernel)) (pi_list (pv 5)) (blkOk_by (N := N_course) (sc := defScope S_course) (by decide +kernel)) (fun _ _ _ _ _ => (pg_tup rfl (pgs_cons (pg_name (i := 4) sc_course.nd rfl (Or.inl rfl)) (pgs_cons (pg_name (i := 8) sc_course.nd rfl (Or.inl rfl)) pgs_nil)))) (fun _ _ _ _ _ => pts_nil) (fun _ _ _ _ _ => (pe_tup (pa_cons (pv 4) (pa_cons (pe_fldK (K := K) (pv 4) rfl) pa_nil))))))) pss_nil)))))))))))))), ?_⟩
  intro a pre B0 z D ok kr kn
  obtain ⟨⟨p1, p2⟩, p3, ⟨p4, p5⟩, ⟨p6, p7⟩, p8, p9⟩ := id pre
  have ef : ((a.ct.fine.toNat : Nat) : Int) = a.ct.fine := by omega
  have eco : coOf a = if a.u < a.c.start then ([], sWhole) else if ((firstS a.ct.fine.toNat a.c).map startRow).length = 0 then ([], sVoid) else courseGo a.ct.body a.ct.stride a.c a.u ((a.u + a.ct.stride - a.c.start).toNat + 1) a.c.start a.c.start ((firstS a.ct.fine.toNat a.c).map startRow) [] := rfl
  have f1 := firstS_ok p3 a.ct.fine.toNat
  have f2 : (firstS a.ct.fine.toNat a.c).length ≤ 64 := Nat.le_trans f1.2 (Nat.le_trans (Nat.pow_le_pow_right (by decide) (show a.ct.fine.toNat ≤ 6 by omega)) (by decide))
  refine sq_own ok a_nil fun l z1 H1 ok1 => ?_
  refine sq_if0 ok1 (t_test (g_I0 (g_var rfl) (g_fld (g_var rfl) T.cl_Craft T.na_Craft_start rfl))) (fun hb H2 ok2 => ?_) fun hb H2 ok2 => ?_
  · have ok3 := OkS.freezeL (i := 3) ok2 rfl
    refine st_retE ok3 (g_Course (ps := []) (g_var rfl) g_c) (congrArg (PCo K) (show coOf a = ([], sWhole) from ?_)) kr
    rw [eco]
    exact if_pos (of_decide_eq_true hb)
  have hb : ¬ a.u < a.c.start := of_decide_eq_false hb
  rw [if_neg hb] at eco
  refine sq_asg ok2 (EvG.is (d' := PL (((firstS a.ct.fine.toNat a.c).map startRow).map (PRow K))) (g_lcL0 (vs := [4]) (firstS a.ct.fine.toNat a.c) (PSta K) (fun s => PRow K (startRow s))
    (fun s => [some (PCt K a.ct), some (PCr K a.c), some (PI a.u), some (PV (.ref l)), some (PSta K s), none, none, none, none, none])
    (g_first_states (EvG.is (g_fld (g_var rfl) T.cl_Contents T.na_Contents_fineness rfl) (congrArg (fun i => PI i) ef.symm)) (g_var rfl) (by omega)) (by omega) (fun s _ => tc_name) (fun s _ => g_tup (a_cons (g_var rfl) (a_cons (g_fld (g_var rfl) T.cl_State T.na_State_place rfl) a_nil)))) (congrArg PL mapc)) fun z3 H3 ok3 => ?_
  refine sq_if0 ok3 (t_test (g_op (g_cb (a_cons (g_var rfl) a_nil) r_lenL) g_c (r_eq rfl))) (fun hc H4 ok4 => ?_) fun hc H4 ok4 => ?_
  · have e : ((((firstS a.ct.fine.toNat a.c).map startRow).map (PRow K)).length : Int) = 0 := V.int.inj (of_decide_eq_true hc)
    rw [List.length_map] at e
    have ok5 := OkS.freezeL (i := 3) ok4 rfl
    refine st_retE ok5 (g_Course (ps := []) (g_var rfl) g_c) (congrArg (PCo K) (show coOf a = ([], sVoid) from ?_)) kr
    rw [eco]
    exact if_pos (by omega)
  have e : ¬ ((((firstS a.ct.fine.toNat a.c).map startRow).map (PRow K)).length : Int) = 0 := fun h => of_decide_eq_false hc (congrArg V.int h)
  rw [List.length_map] at e
  rw [if_neg (by omega)] at eco
  refine sq_asg ok4 (g_fld (g_var rfl) T.cl_Craft T.na_Craft_start rfl) fun z5 H5 ok5 => ?_
  refine sq_asg ok5 (g_var rfl) fun z6 H6 ok6 => ?_
  refine st_while (CgR a) (coG K a l) (fun x => some (owL l (x.ps.map (PPc K)))) (fun _ => true) _ ⟨a.c.start, a.c.start, (firstS a.ct.fine.toNat a.c).map startRow, []⟩
    ⟨rfl, eco.symm, okR_start f1.1 f2, Int.le_refl _, by show a.c.start ≤ a.c.start + a.ct.stride - 1; omega, by show a.c.start ≤ a.u; omega, Int.le_refl _, by show (0 : Int) ≤ a.c.start - a.c.start; omega⟩ ok6 (fun m x r => t_B g_c) (fun m x r _ s' H' ok7 N hN => ?_) (fun m x s' H' r h ok => nomatch h)
  obtain ⟨rm, rgo, rok, l1, l2, l3, l4, l5⟩ := r
  obtain ⟨b, t, rows, ps⟩ := x
  have rok : okR rows := rok
  have l1 : b ≤ t := l1
  have l2 : t ≤ b + a.ct.stride - 1 := l2
  have l3 : b ≤ a.u := l3
  have l4 : a.c.start ≤ b := l4
  have l5 : (ps.length : Int) ≤ t - a.c.start := l5
  have rm : m = (a.u + a.ct.stride - t).toNat + 1 := rm
  have hl : (ps.map (PPc K)).length < 100000 := by
    rw [List.length_map]
    omega
  have epc : EvG (tLc (iList K (tVar 5)) (gTup K 2 (gCons (gName 4) (gCons (gName 8) gNil))) tYes (tVar 8) [4, 8]) (coG K a l ⟨b, t, rows, ps⟩) (PL ((rows.map (·.2)).map (PBox K))) := EvG.is (g_lcL0 (vs := [4, 8]) rows (PRow K) (fun r => PBox K r.2)
    (fun r => [some (PCt K a.ct), some (PCr K a.c), some (PI a.u), some (PV (.ref l)), some (PSta K r.1), some (PL (rows.map (PRow K))), some (PI b), some (PI t), some (PBox K r.2), none]) (g_var rfl) (by have := rok.2; omega) (fun r _ => tc_tup (tcs_cons tc_name (tcs_cons tc_name tcs_nil))) (fun r _ => g_var rfl)) (congrArg PL mapc)
  have ego : coOf a = if t = b + a.ct.stride - 1 ∧ a.u ≤ t then (if t = b + a.ct.stride - 1 then ps ++ [⟨b, t, rows.map (·.2)⟩] else ps, sWhole) else
      if (nextR a.ct.body a.c t rows).2 ≠ sWhole then (if t = b + a.ct.stride - 1 then ps ++ [⟨b, t, rows.map (·.2)⟩] else ps, (nextR a.ct.body a.c t rows).2) else
        if t + 1 = b + a.ct.stride then courseGo a.ct.body a.ct.stride a.c a.u (a.u + a.ct.stride - t).toNat (t + 1) (t + 1) ((nextR a.ct.body a.c t rows).1.map fun r => startRow r.1) (if t = b + a.ct.stride - 1 then ps ++ [⟨b, t, rows.map (·.2)⟩] else ps) else courseGo a.ct.body a.ct.stride a.c a.u (a.u + a.ct.stride - t).toNat b (t + 1) (nextR a.ct.body a.c t rows).1 (if t = b + a.ct.stride - 1 then ps ++ [⟨b, t, rows.map (·.2)⟩] else ps) := by
    rw [← rgo, rm]
    rfl
  have hpl : (if t = b + a.ct.stride - 1 then ps ++ [⟨b, t, rows.map (·.2)⟩] else ps).length ≤ ps.length + 1 := by
    split <;> simp
  by_cases hc : t = b + a.ct.stride - 1 ∧ a.u ≤ t
  · rw [if_pos hc, if_pos hc.1] at ego
    refine sq_if ok7 (t_test (g_op (g_var rfl) (g_I0 (g_I0 (g_var rfl) (g_fld (g_var rfl) T.cl_Contents T.na_Contents_stride rfl)) g_c) (r_eq rfl))) (fun h H8 ok8 => ?_) (fun h => absurd (congrArg V.int hc.1) (of_decide_eq_false h))
    refine sq_app ok8 (g_var rfl) (g_Piece (g_var rfl) (g_var rfl) epc) hl fun H9 ok9 => ?_
    refine st_if ok9 (t_test (g_I0 (g_var rfl) (g_var rfl))) (fun h H10 ok10 => ?_) (fun h => absurd hc.2 (of_decide_eq_false h))
    have ok11 := OkS.freezeL (i := 3) ok10 rfl
    exact st_retE ok11 (g_Course (ps := ps ++ [⟨b, t, rows.map (·.2)⟩]) (EvG.is (g_var rfl) (congrArg PL (by rw [List.map_append]; rfl))) g_c) (congrArg (PCo K) ego) kr
  rw [if_neg hc] at ego
  generalize hps : (if t = b + a.ct.stride - 1 then ps ++ [⟨b, t, rows.map (·.2)⟩] else ps) = ps' at ego hpl
  refine sq_ifM (coG K a l ⟨b, t, rows, ps⟩) (some (owL l (ps'.map (PPc K)))) ok7 (t_test (g_op (g_var rfl) (g_I0 (g_I0 (g_var rfl) (g_fld (g_var rfl) T.cl_Contents T.na_Contents_stride rfl)) g_c) (r_eq rfl))) (fun h H8 ok8 N2 hN2 => ?_) (fun h H8 ok8 N2 hN2 => ?_) fun z8 H8 ok8 => ?_
  · have et : t = b + a.ct.stride - 1 := V.int.inj (of_decide_eq_true h)
    rw [if_pos et] at hps
    subst hps
    refine sq_app ok8 (g_var rfl) (g_Piece (g_var rfl) (g_var rfl) epc) hl fun H9 ok9 => ?_
    refine st_if ok9 (t_test (g_I0 (g_var rfl) (g_var rfl))) (fun h => absurd ⟨et, of_decide_eq_true h⟩ hc) (fun h H10 ok10 => hN2 _ _ ?_)
    rw [List.map_append]
    exact ok10
  · rw [if_neg (fun z => of_decide_eq_false h (congrArg V.int z))] at hps
    subst hps
    exact hN2 _ _ ok8
  have okn := nextR_ok (bd := a.ct.body) (t := t) p3 rok
  refine sq_asgT ok8 (g_next_rows (g_fld (g_var rfl) T.cl_Contents T.na_Contents_body rfl) (g_var rfl) (g_var rfl) (g_var rfl) ⟨⟨p1, p2⟩, p3, rok⟩) (tg_tup (tgs_cons tg_name (tgs_cons tg_name tgs_nil))) fun z9 H9 ok9 => ?_
  have ok9 : OkS B0 H [some (PCt K a.ct), some (PCr K a.c), some (PI a.u), some (PV (.ref l)), none, some (PL ((nextR a.ct.body a.c t rows).1.map (PRow K))), some (PI b), some (PI t), none, some (PS (nextR a.ct.body a.c t rows).2)] (some (owL l (ps'.map (PPc K)))) z9 H9 := ok9
  generalize nextR a.ct.body a.c t rows = nr at *
  refine sq_if0 ok9 (t_test (g_op (g_var rfl) g_c (r_ne rfl))) (fun h H10 ok10 => ?_) fun h H10 ok10 => ?_
  · have e : nr.2 ≠ sWhole := fun z => by
      have h' : (!decide (V.str nr.2 = V.str sWhole)) = true := h
      rw [decide_eq_true (congrArg V.str z)] at h'
      cases h'
    rw [if_pos e] at ego
    have ok11 := OkS.freezeL (i := 3) ok10 rfl
    exact st_retE ok11 (g_Course (g_var rfl) (g_var rfl)) (congrArg (PCo K) ego) kr
  have e : nr.2 = sWhole := Classical.byContradiction fun z => by
    have h' : (!decide (V.str nr.2 = V.str sWhole)) = false := h
    rw [decide_eq_false (fun y => z (V.str.inj y))] at h'
    cases h'
  rw [if_neg (fun z => z e)] at ego
  refine sq_asg ok10 (g_I0 (g_var rfl) g_c) fun z11 H11 ok11 => ?_
  refine st_if ok11 (t_test (g_op (g_var rfl) (g_I0 (g_var rfl) (g_fld (g_var rfl) T.cl_Contents T.na_Contents_stride rfl)) (r_eq rfl))) (fun h H12 ok12 => ?_) (fun h H12 ok12 => ?_)
  · have et : t + 1 = b + a.ct.stride := V.int.inj (of_decide_eq_true h)
    rw [if_pos et] at ego
    have hu : t < a.u := Int.not_le.mp fun z => hc ⟨by omega, z⟩
    refine sq_asg ok12 (g_var rfl) fun z13 H13 ok13 => ?_
    refine st_asg ok13 (EvG.is (d' := PL ((nr.1.map fun r => startRow r.1).map (PRow K))) (g_lcL0 (vs := [4, 8]) nr.1 (PRow K) (fun r => PRow K (startRow r.1))
      (fun r => [some (PCt K a.ct), some (PCr K a.c), some (PI a.u), some (PV (.ref l)), some (PSta K r.1), some (PL (nr.1.map (PRow K))), some (PI (t + 1)), some (PI (t + 1)), some (PBox K r.2), some (PS nr.2)]) (g_var rfl) (by have := okn.2; omega) (fun r _ => tc_tup (tcs_cons tc_name (tcs_cons tc_name tcs_nil))) (fun r _ => g_tup (a_cons (g_var rfl) (a_cons (g_fld (g_var rfl) T.cl_State T.na_State_place rfl) a_nil)))) (congrArg PL mapc)) fun z14 H14 ok14 => ?_
    refine hN _ _ (a.u + a.ct.stride - t).toNat ⟨t + 1, t + 1, nr.1.map (fun r : Row => startRow r.1), ps'⟩ (by omega) ⟨by show _ = (a.u + a.ct.stride - (t + 1)).toNat + 1; omega, ego.symm, ?_, Int.le_refl _, by show t + 1 ≤ t + 1 + _ - 1; omega, by show t + 1 ≤ a.u; omega, by show a.c.start ≤ t + 1; omega, by show (ps'.length : Int) ≤ t + 1 - a.c.start; omega⟩ (ok14.forget [9])
    have e2 : nr.1.map (fun r => startRow r.1) = (nr.1.map (·.1)).map startRow := mapc
    show okR (nr.1.map fun r => startRow r.1)
    rw [e2]
    refine okR_start (fun s hs => ?_) (by rw [List.length_map]; exact okn.2)
    obtain ⟨r, hr1, hr2⟩ := List.mem_map.mp hs
    rw [← hr2]
    exact okn.1 r hr1
  · have et : ¬ t + 1 = b + a.ct.stride := fun z => of_decide_eq_false h (congrArg V.int z)
    rw [if_neg et] at ego
    exact hN _ _ (a.u + a.ct.stride - t).toNat ⟨b, t + 1, nr.1, ps'⟩ (by omega) ⟨by show _ = (a.u + a.ct.stride - (t + 1)).toNat + 1; omega, ego.symm, okn, by show b ≤ t + 1; omega, by show t + 1 ≤ b + _ - 1; omega, l3, l4, by show (ps'.length : Int) ≤ t + 1 - a.c.start; omega⟩ (ok12.forget [9])
end
end K9
set_option Elab.async false
set_option linter.all false
set_option maxRecDepth 100000
set_option maxHeartbeats 4000000
/-! K9D4: data: check, is_name, is_tick, is_box, the classes; data of a craft; names. -/
namespace K9
open PySem PySem.Spec PyProof.Rows L2
section
variable {K : PySem.W.Frag} {B0 B : Hp} {G : Cn} {W : Option Ow} {s : L2.St} {H : Hp} {D : Ends} {te : TE} {tb : TS}
/-- for c in a text -/
theorem st_forS {g : TG} {x : Str} (Gt : Nat → Cn) (h : OkS B0 B G W s H) (ev : EvG te G (PS x)) (tg : ∀ c, TgG g G (PS ⟨#[c]⟩) (Gt c))
    (body : ∀ c, c ∈ x.cps.toList → ∀ s' H', OkS B0 B (Gt c) W s' H' → ∀ N : L2.St → Hp → Prop, (∀ s2 H2, OkS B0 B G W s2 H2 → N s2 H2) → tb { D with nx := N, ct := N, bk := D.nx } s' H')
    (k : ∀ s' H', OkS B0 B G W s' H' → D.nx s' H') : tFor (iStr te) g tb D s H := by
  refine h.ev ev fun v H0 H1 gr sl ow hv => ?_
  have hv : v = .str x := hv
  subst hv
  refine ⟨x, rfl, fun i m s H => m = x.cps.size - i ∧ OkS B0 B G W s H, ⟨_, rfl, ⟨H0, gr, sl, ow⟩⟩, ?_⟩
  rintro i m s H ⟨rfl, ok⟩
  by_cases hi : i < x.cps.size
  · refine .inr ⟨hi, OkS B0 B G W, fun s' H' p => ⟨x.cps.size - (i + 1), by omega, rfl, p⟩, fun v H' ⟨e, c, hc, ev⟩ => ?_⟩
    subst e ev
    obtain ⟨H2, g2, sl2, ow2⟩ := ok.ex
    have hm : c ∈ x.cps.toList := by
      rw [← Array.getElem?_toList] at hc
      exact List.mem_of_getElem? hc
    exact tg c s H2 _ _ g2.b sl2 rfl _ fun s'' sl'' => body c hm s'' _ ⟨H2, g2, sl'', ow2⟩ _ fun s2 H2 p => p
  · exact .inl ⟨Nat.not_lt.mp hi, k _ _ ok⟩
end
abbrev alph : Str := "abcdefghijklmnopqrstuvwxyz0123456789_"
def okNm (t : Str) : Prop := t = "a" ∨ t = "b"
theorem okNm.len {t : Str} (h : okNm t) : t.length = 1 := by
  rcases h with rfl | rfl <;> decide
theorem okNm.chr {t : Str} (h : okNm t) : ∀ c ∈ t.cps.toList, c ∈ alph.cps.toList := by
  rcases h with rfl | rfl <;> decide
def gI (m : Int) (a : Iv) : Prop := -m ≤ a.1 ∧ a.1 ≤ a.2 ∧ a.2 ≤ m
def gB (m : Int) (b : Box) : Prop := gI m b.1 ∧ gI m b.2.1 ∧ gI m b.2.2
abbrev MOST : Int := 1000000000000000
abbrev MOSTD : Int := 1000000000000
abbrev okT (t : Int) : Prop := 0 ≤ t ∧ t ≤ 100000
structure okBu (y : Bu) : Prop where
  b : okT y.b
  e : okT y.e
  l : y.b < y.e
  p : gB MOSTD y.push
structure okSg (s : Sg) : Prop where
  t : okT s.t
  p : gB MOST s.place
structure okCr (c : Cr) : Prop where
  n : okNm c.name
  t : okT c.start
  p : gB MOST c.place
  s : gB MOST c.speed
  d : 0 ≤ c.drift ∧ c.drift ≤ MOSTD
structure okBdy (b : Bd) : Prop where
  m : 1 ≤ b.mu ∧ b.mu ≤ 10 ^ 30
  o : 0 ≤ b.obl ∧ b.obl ≤ 10 ^ 30
  n : 1 ≤ b.turn.2.2 ∧ b.turn.2.2 ≤ 1000000
  r : b.turn.1 * b.turn.1 + b.turn.2.1 * b.turn.2.1 = b.turn.2.2 * b.turn.2.2
  x : bd 64 b.turn.1 ∧ bd 64 b.turn.2.1
structure okSi (s : Si) : Prop where
  n : okNm s.name
  z : ¬ (s.place.1 = 0 ∧ s.place.2.1 = 0 ∧ s.place.2.2 = 0)
  p : (-MOST ≤ s.place.1 ∧ s.place.1 ≤ MOST) ∧ (-MOST ≤ s.place.2.1 ∧ s.place.2.1 ≤ MOST) ∧ (-MOST ≤ s.place.2.2 ∧ s.place.2.2 ≤ MOST)
structure okCt0 (c : Ct) : Prop where
  s : 1 ≤ c.stride ∧ c.stride ≤ 1000
  f : 0 ≤ c.fine ∧ c.fine ≤ 6
  l : c.crafts.length ≤ 100
  m : c.sites.length ≤ 100
section
variable {K : PySem.W.Frag} {G : Cn} {ta tb : TE}
theorem g_notSign {c : Nat} {z : Str} (ha : EvG ta G (PS ⟨#[c]⟩)) (hb : EvG tb G (PS z)) : EvG (tOp (fun x y H Q => ∃ (c : Nat) (z : Str), x = V.str ⟨#[c]⟩ ∧ y = V.str z ∧ Q (.bl (!decide (c ∈ z.cps.toList))) H) ta tb) G (PB (!decide (c ∈ z.cps.toList))) :=
  g_op ha hb fun u v H0 H sm hx hy Q k => ⟨c, z, hx, hy, k _ H0 H (.refl sm) rfl⟩
end
section
variable {P : Program} {w : World} {K : PySem.W.Frag} {mg : Str → Option Value} {base : Heap} {G : Cn} {ta tb tc td te tf tg th : TE} {E : XK}
abbrev sp_check (K : PySem.W.Frag) : Sp := spF (fun a : Str => [PB true, PS a]) (fun _ => True) fun _ => PN
theorem g_check {x : Str} {b : Bool} (ha : EvG ta G (PB b)) (hb : EvG tb G (PS x)) (h : b = true) : EvG (tCall (sp_check K) [] E (tCons ta (tCons tb tNil))) G PN := by
  subst h
  exact g_callF (args := fun a : Str => [PB true, PS a]) x trivial (a_cons ha (a_cons hb a_nil))
theorem d_check (T : Tx w K mg) : Df P w K mg base CX0 1 "check" ["good", "name"] (sp_check K) := by
  refine df_F T.F_check T.g_check T.B_check sc_check (fun _ => rfl) (fun a => [some (PB true), some (PS a)]) (fun _ => rfl) fun cdv A' outer s H E hr => ⟨_, (pss_one (ps_if (pt_not (pt_val (pv 0))) (pss_one ps_never) pss_nil)), ?_⟩
  intro a pre B0 z D ok kr kn
  refine st_if ok (t_not (t_B (g_var rfl))) (fun hb => nomatch hb) fun hb H1 ok1 => ?_
  obtain ⟨H0, g1, sl, ow⟩ := ok1.ex
  exact kn _ H0 H1 g1 rfl
abbrev sp_is_name (K : PySem.W.Frag) : Sp := spF (fun a : Str => [PS a]) okNm fun _ => PB true
theorem g_is_name {x : Str} (ha : EvG ta G (PS x)) (h : okNm x) : EvG (tCall (sp_is_name K) [] E (tCons ta tNil)) G (PB true) := g_callF (args := fun a : Str => [PS a]) x h (a_cons ha a_nil)
theorem r_lenS {x : Str} (h : x.length ≤ 100000) : RAG (fun xs H Q => ∃ z, xs = [V.str z] ∧ z.length ≤ sizeLine ∧ Q (.int z.length) H) [PS x] (PI x.length) := fun xs H0 H sm hx Q k => by
  obtain ⟨v, rfl, e⟩ := all1 hx
  have e : v = .str x := e
  subst e
  exact ⟨x, rfl, sz_of h, k _ H0 H (.refl sm) rfl⟩
theorem d_is_name (T : Tx w K mg) : Df P w K mg base CX0 1 "is_name" ["text"] (sp_is_name K) := by
  refine df_F T.F_is_name T.g_is_name T.B_is_name sc_is_name (fun _ => rfl) (fun a => [some (PS a), none]) (fun _ => rfl) fun cdv A' outer s H E hr => ⟨_, (pss_cons (ps_if (pt_not (pt_chain op_le op_le pe_int (pe_callB call_len_str rfl T.n_len PySem.boot_len (pa_cons (pv 0) pa_nil)) pe_int)) (pss_one (ps_ret pe_bl)) pss_nil)
    (pss_cons (ps_for PassesOwn.never rfl (pi_str (pv 0)) (pg_name (i := 1) sc_is_name.nd rfl (by first | exact Or.inl rfl | exact Or.inr rfl)) (pss_one (ps_if (pt_cmpR op_notIn_sign (pv 1) pe_str rfl) (pss_one (ps_ret pe_bl)) pss_nil)))
    (pss_one (ps_ret pe_bl)))), ?_⟩
  intro a pre B0 z D ok kr kn
  have hl := pre.len
  refine sq_if0 ok (t_not (tt_chain g_c (g_cb (a_cons (g_var rfl) a_nil) (r_lenS (by omega))) r_I0 (fun _ => g_c) r_I0)) (fun hb H1 ok1 => ?_) fun hb H1 ok1 => ?_
  · rw [hl] at hb
    cases hb
  refine sq (st_forS (x := a) (fun c => [some (PS a), some (PS ⟨#[c]⟩)]) ok1 (g_var rfl) (fun c => tg_name) (fun c hc s' H' ok2 N hN => ?_) fun s' H' ok2 => ?_)
  · refine st_if ok2 (t_test (g_notSign (g_var rfl) g_c)) (fun hb H3 ok3 => ?_) fun hb H3 ok3 => ?_
    · rw [decide_eq_true (pre.chr c hc)] at hb
      cases hb
    · exact hN _ _ (ok3.forget [1])
  · exact st_ret ok2 g_c kr
/-! #### is_tick, is_box -/
abbrev sp_is_tick (K : PySem.W.Frag) : Sp := spF (fun a : Int => [PI a]) okT fun _ => PB true
theorem g_is_tick {x : Int} (ha : EvG ta G (PI x)) (h : okT x) : EvG (tCall (sp_is_tick K) [] E (tCons ta tNil)) G (PB true) := g_callF (args := fun a : Int => [PI a]) x h (a_cons ha a_nil)
theorem d_is_tick (T : Tx w K mg) : Df P w K mg base CX0 1 "is_tick" ["number"] (sp_is_tick K) := by
  obtain ⟨_, m_LAST_TICK⟩ := T.i_LAST_TICK
  refine df_F T.F_is_tick T.g_is_tick T.B_is_tick sc_is_tick (fun _ => rfl) (fun a => [some (PI a)]) (fun _ => rfl) fun cdv A' outer s H E hr => ⟨_, (pss_one (ps_ret (pe_chain op_le op_le pe_int (pv 0) (pe_glob (v := .int _) rfl m_LAST_TICK ⟨_, rfl⟩)))), ?_⟩
  intro a pre B0 z D ok kr kn
  exact st_retE ok (g_chain g_c (g_var rfl) r_I0 (fun _ => g_c) r_I0) (congrArg (fun b => PB b) (show true = (decide _ && decide _) by rw [decide_eq_true pre.1, decide_eq_true pre.2]; rfl)) kr
abbrev sp_is_box (K : PySem.W.Frag) : Sp := spF (fun a : Box × Int => [PBox K a.1, PI a.2]) (fun a => gB a.2 a.1) fun _ => PB true
theorem g_is_box {x : Box} {m : Int} (ha : EvG ta G (PBox K x)) (hb : EvG tb G (PI m)) (h : gB m x) : EvG (tCall (sp_is_box K) [] E (tCons ta (tCons tb tNil))) G (PB true) := g_callF (args := fun a : Box × Int => [PBox K a.1, PI a.2]) (x, m) h (a_cons ha (a_cons hb a_nil))
abbrev boxL (b : Box) : List Iv := [b.1, b.2.1, b.2.2]
theorem d_is_box (T : Tx w K mg) : Df P w K mg base CX0 1 "is_box" ["box", "most"] (sp_is_box K) := by
  refine df_F T.F_is_box T.g_is_box T.B_is_box sc_is_box (fun _ => rfl) (fun a => [some (PBox K a.1), some (PI a.2), none, none]) (fun _ => rfl) fun cdv A' outer s H E hr => ⟨_, (pss_cons (ps_for PassesOwn.never rfl (pi_tup (pv 0)) (pg_tup rfl (pgs_cons (pg_name (i := 2) sc_is_box.nd rfl (by first | exact Or.inl rfl | exact Or.inr rfl)) (pgs_cons (pg_name (i := 3) sc_is_box.nd rfl (by first | exact Or.inl rfl | exact Or.inr rfl)) pgs_nil))) (pss_one (ps_if (pt_not (pt_chain3 op_le op_le op_le (pe_un un_neg (pv 1)) (pv 2) (pv 3) (pv 1))) (pss_one (ps_ret pe_bl)) pss_nil)))
    (pss_one (ps_ret pe_bl))), ?_⟩
  intro a pre B0 z D ok kr kn
  obtain ⟨x, m⟩ := a
  obtain ⟨p1, p2, p3⟩ := pre
  have pre : ∀ y ∈ boxL x, gI m y := fun y hy => by
    have hy : y = x.1 ∨ y = x.2.1 ∨ y = x.2.2 := by simpa using hy
    rcases hy with rfl | rfl | rfl <;> assumption
  refine sq (st_forTm (boxL x) (PIv K) (fun _ (_ : Unit) => True) (fun _ _ => [some (PBox K x), some (PI m), none, none]) (fun y _ _ => [some (PBox K x), some (PI m), some (PI y.1), some (PI y.2)]) (fun _ _ => none) () trivial ok (g_var rfl) (fun y i u => tg_tup (tgs_cons tg_name (tgs_cons tg_name tgs_nil))) (fun C0 C up i y u hy r s' H' ok1 N hN => ?_) (fun u s' H' r ok1 => ?_))
  · have hm := pre y (List.mem_of_getElem? hy)
    refine st_if ok1 (t_not (t_chain3 (g_U (g_var rfl)) (g_var rfl) r_I0 (fun _ => g_var rfl) r_I0 (fun _ => g_var rfl) r_I0)) (fun hb H3 ok3 => ?_) fun hb H3 ok3 => hN _ _ () trivial (ok3.forget [2, 3])
    rw [decide_eq_true hm.1, decide_eq_true hm.2.1, decide_eq_true hm.2.2] at hb
    cases hb
  · exact st_ret ok1 g_c kr
/-! #### Body, Burn, Sighting -/
abbrev bdF (K : PySem.W.Frag) (b : Bd) : List (Str × Dn) := [("mu", PI b.mu), ("oblateness", PI b.obl), ("turn", P3 K b.turn)]
abbrev sp_Body (K : PySem.W.Frag) : Sp := spI (He.ga K "Body") (fun b : Bd => [PI b.mu, PI b.obl, P3 K b.turn]) okBdy (bdF K)
theorem g_Body {b : Bd} (ha : EvG ta G (PI b.mu)) (hb : EvG tb G (PI b.obl)) (hc : EvG tc G (P3 K b.turn)) (h : okBdy b) : EvG (tMake (He.ga K "Body") (sp_Body K) [] E (tCons ta (tCons tb (tCons tc tNil)))) G (PBd K b) := g_make (args := fun b : Bd => [PI b.mu, PI b.obl, P3 K b.turn]) b h [_, _, _] [] [] rfl (fun _ => trivial) (a_cons ha (a_cons hb (a_cons hc a_nil)))
theorem cpow_of {i j : Int} (h : 0 ≤ j ∧ j ≤ 1000000 ∧ i.natAbs < 2 ^ 64) : CPow i j := h
theorem d_Body (T : Tx w K mg) : Dc P w K mg base CX0 2 "Body" (He.ga K "Body") ["self", "mu", "oblateness", "turn"] [] (sp_Body K) := by
  have G_check := d_check (P := P) (base := base) T
  refine dc_I T.F_Body_init T.g_Body T.mk_Body T.B_Body_init .nil sc_Body_init (fun _ => rfl) (fun b v => [some (PV v), some (PI b.mu), some (PI b.obl), some (P3 K b.turn), none, none, none]) (fun _ _ => rfl) fun cdv A' outer s H E hr => ⟨_, (pss_cons (ps_expr (pe_d G_check hr (pa_cons (pe_chain op_le op_le pe_int (pv 1) (pe_op op_pow pe_int pe_int)) (pa_cons pe_str pa_nil))))
    (pss_cons (ps_expr (pe_d G_check hr (pa_cons (pe_chain op_le op_le pe_int (pv 2) (pe_op op_pow pe_int pe_int)) (pa_cons pe_str pa_nil))))
    (pss_cons (ps_asg (pv 3) (pg_tup rfl (pgs_cons (pg_name (i := 4) sc_Body_init.nd rfl (by first | exact Or.inl rfl | exact Or.inr rfl)) (pgs_cons (pg_name (i := 5) sc_Body_init.nd rfl (by first | exact Or.inl rfl | exact Or.inr rfl)) (pgs_cons (pg_name (i := 6) sc_Body_init.nd rfl (by first | exact Or.inl rfl | exact Or.inr rfl)) pgs_nil)))))
    (pss_cons (ps_expr (pe_d G_check hr (pa_cons (pe_and (pe_chain op_le op_le pe_int (pv 6) (pe_op op_pow pe_int pe_int)) (pe_one (pe_cmpR op_eq (pe_op op_add (pe_op op_mulW (pv 4) (pv 4)) (pe_op op_mulW (pv 5) (pv 5))) (pe_op op_mulW (pv 6) (pv 6)) (nomark _)))) (pa_cons pe_str pa_nil))))
    (pss_cons (ps_fld (pv 0) (pv 1) rfl)
    (pss_cons (ps_fld (pv 0) (pv 2) rfl)
    (pss_one (ps_fld (pv 0) (pv 3) rfl)))))))), ?_⟩
  intro a pre B0 B p dx z D ok kn
  have hp : CPow 10 30 := ⟨by decide, by decide, by decide⟩
  have hq : CPow 10 6 := ⟨by decide, by decide, by decide⟩
  have bn : bd 64 a.turn.2.2 := by
    have := pre.n
    unfold bd
    omega
  refine sq_drop ok (g_check (g_chain g_c (g_var rfl) r_I0 (fun _ => g_I g_c g_c hp) r_I0) g_c (show (decide _ && decide _) = true by rw [decide_eq_true pre.m.1, decide_eq_true (show a.mu ≤ 10 ^ (30 : Int).toNat from pre.m.2)]; rfl)) fun H1 ok1 => ?_
  refine sq_drop ok1 (g_check (g_chain g_c (g_var rfl) r_I0 (fun _ => g_I g_c g_c hp) r_I0) g_c (show (decide _ && decide _) = true by rw [decide_eq_true pre.o.1, decide_eq_true (show a.obl ≤ 10 ^ (30 : Int).toNat from pre.o.2)]; rfl)) fun H2 ok2 => ?_
  refine sq_asgT ok2 (g_var rfl) (tg_tup (tgs_cons tg_name (tgs_cons tg_name (tgs_cons tg_name tgs_nil)))) fun z3 H3 ok3 => ?_
  refine sq_drop ok3 (g_check (g_andV (g_chain g_c (g_var rfl) r_I0 (fun _ => g_I g_c g_c hq) r_I0) (fun _ => g_op (g_I0 (g_I (g_var rfl) (g_var rfl) (mulW_of pre.x.1 pre.x.1 (by decide))) (g_I (g_var rfl) (g_var rfl) (mulW_of pre.x.2 pre.x.2 (by decide)))) (g_I (g_var rfl) (g_var rfl) (mulW_of bn bn (by decide))) (r_eq rfl))) g_c
    (show ((decide _ && decide _) && decide _) = true by rw [decide_eq_true pre.n.1, decide_eq_true (show a.turn.2.2 ≤ 10 ^ (6 : Int).toNat from pre.n.2), decide_eq_true (congrArg V.int pre.r)]; rfl)) fun H4 ok4 => ?_
  refine sq_fld ok4 (g_var rfl) (g_var rfl) T.cl_Body T.na_Body_mu (Nat.le_of_ble_eq_true rfl) rfl fun H5 ok5 => ?_
  refine sq_fld ok5 (g_var rfl) (g_var rfl) T.cl_Body T.na_Body_oblateness (Nat.le_of_ble_eq_true rfl) rfl fun H6 ok6 => ?_
  exact st_fld ok6 (g_var rfl) (g_var rfl) T.cl_Body T.na_Body_turn (Nat.le_of_ble_eq_true rfl) rfl fun H7 ok7 => kn _ _ _ ok7
abbrev sp_Burn (K : PySem.W.Frag) : Sp := spI (He.ga K "Burn") (fun b : Bu => [PI b.b, PI b.e, PBox K b.push]) okBu fun b => [("begin", PI b.b), ("end", PI b.e), ("push", PBox K b.push)]
theorem g_Burn {b : Bu} (ha : EvG ta G (PI b.b)) (hb : EvG tb G (PI b.e)) (hc : EvG tc G (PBox K b.push)) (h : okBu b) : EvG (tMake (He.ga K "Burn") (sp_Burn K) [] E (tCons ta (tCons tb (tCons tc tNil)))) G (PBu K b) := g_make (args := fun b : Bu => [PI b.b, PI b.e, PBox K b.push]) b h [_, _, _] [] [] rfl (fun _ => trivial) (a_cons ha (a_cons hb (a_cons hc a_nil)))
theorem d_Burn (T : Tx w K mg) : Dc P w K mg base CX0 2 "Burn" (He.ga K "Burn") ["self", "begin", "end", "push"] [] (sp_Burn K) := by
  have G_check := d_check (P := P) (base := base) T
  have G_is_tick := d_is_tick (P := P) (base := base) T
  have G_is_box := d_is_box (P := P) (base := base) T
  obtain ⟨_, m_MOST_DRIFT⟩ := T.i_MOST_DRIFT
  refine dc_I T.F_Burn_init T.g_Burn T.mk_Burn T.B_Burn_init .nil sc_Burn_init (fun _ => rfl) (fun b v => [some (PV v), some (PI b.b), some (PI b.e), some (PBox K b.push)]) (fun _ _ => rfl) fun cdv A' outer s H E hr => ⟨_, (pss_cons (ps_expr (pe_d G_check hr (pa_cons (pe_d G_is_tick hr (pa_cons (pv 1) pa_nil)) (pa_cons pe_str pa_nil))))
    (pss_cons (ps_expr (pe_d G_check hr (pa_cons (pe_and (pe_d G_is_tick hr (pa_cons (pv 2) pa_nil)) (pe_one (pe_cmpR op_lt (pv 1) (pv 2) (nomark _)))) (pa_cons pe_str pa_nil))))
    (pss_cons (ps_expr (pe_d G_check hr (pa_cons (pe_d G_is_box hr (pa_cons (pv 3) (pa_cons (pe_glob (v := .int _) rfl m_MOST_DRIFT ⟨_, rfl⟩) pa_nil))) (pa_cons pe_str pa_nil))))
    (pss_cons (ps_fld (pv 0) (pv 1) rfl)
    (pss_cons (ps_fld (pv 0) (pv 2) rfl)
    (pss_one (ps_fld (pv 0) (pv 3) rfl))))))), ?_⟩
  intro a pre B0 B p dx z D ok kn
  refine sq_drop ok (g_check (g_is_tick (g_var rfl) pre.b) g_c rfl) fun H1 ok1 => ?_
  refine sq_drop ok1 (g_check (g_andV (g_is_tick (g_var rfl) pre.e) (fun _ => g_I0 (g_var rfl) (g_var rfl))) g_c (show (true && decide _) = true by rw [decide_eq_true pre.l]; rfl)) fun H2 ok2 => ?_
  refine sq_drop ok2 (g_check (g_is_box (g_var rfl) g_c pre.p) g_c rfl) fun H3 ok3 => ?_
  refine sq_fld ok3 (g_var rfl) (g_var rfl) T.cl_Burn T.na_Burn_begin (Nat.le_of_ble_eq_true rfl) rfl fun H5 ok5 => ?_
  refine sq_fld ok5 (g_var rfl) (g_var rfl) T.cl_Burn T.na_Burn_end (Nat.le_of_ble_eq_true rfl) rfl fun H6 ok6 => ?_
  exact st_fld ok6 (g_var rfl) (g_var rfl) T.cl_Burn T.na_Burn_push (Nat.le_of_ble_eq_true rfl) rfl fun H7 ok7 => kn _ _ _ ok7
abbrev sp_Sighting (K : PySem.W.Frag) : Sp := spI (He.ga K "Sighting") (fun b : Sg => [PI b.t, PBox K b.place]) okSg fun b => [("at", PI b.t), ("place", PBox K b.place)]
theorem g_Sighting {b : Sg} (ha : EvG ta G (PI b.t)) (hb : EvG tb G (PBox K b.place)) (h : okSg b) : EvG (tMake (He.ga K "Sighting") (sp_Sighting K) [] E (tCons ta (tCons tb tNil))) G (PSg K b) := g_make (args := fun b : Sg => [PI b.t, PBox K b.place]) b h [_, _] [] [] rfl (fun _ => trivial) (a_cons ha (a_cons hb a_nil))
theorem d_Sighting (T : Tx w K mg) : Dc P w K mg base CX0 2 "Sighting" (He.ga K "Sighting") ["self", "at", "place"] [] (sp_Sighting K) := by
  have G_check := d_check (P := P) (base := base) T
  have G_is_tick := d_is_tick (P := P) (base := base) T
  have G_is_box := d_is_box (P := P) (base := base) T
  obtain ⟨_, m_MOST⟩ := T.i_MOST
  refine dc_I T.F_Sighting_init T.g_Sighting T.mk_Sighting T.B_Sighting_init .nil sc_Sighting_init (fun _ => rfl) (fun b v => [some (PV v), some (PI b.t), some (PBox K b.place)]) (fun _ _ => rfl) fun cdv A' outer s H E hr => ⟨_, (pss_cons (ps_expr (pe_d G_check hr (pa_cons (pe_d G_is_tick hr (pa_cons (pv 1) pa_nil)) (pa_cons pe_str pa_nil))))
    (pss_cons (ps_expr (pe_d G_check hr (pa_cons (pe_d G_is_box hr (pa_cons (pv 2) (pa_cons (pe_glob (v := .int _) rfl m_MOST ⟨_, rfl⟩) pa_nil))) (pa_cons pe_str pa_nil))))
    (pss_cons (ps_fld (pv 0) (pv 1) rfl)
    (pss_one (ps_fld (pv 0) (pv 2) rfl))))), ?_⟩
  intro a pre B0 B p dx z D ok kn
  refine sq_drop ok (g_check (g_is_tick (g_var rfl) pre.t) g_c rfl) fun H1 ok1 => ?_
  refine sq_drop ok1 (g_check (g_is_box (g_var rfl) g_c pre.p) g_c rfl) fun H3 ok3 => ?_
  refine sq_fld ok3 (g_var rfl) (g_var rfl) T.cl_Sighting T.na_Sighting_at (Nat.le_of_ble_eq_true rfl) rfl fun H5 ok5 => ?_
  exact st_fld ok5 (g_var rfl) (g_var rfl) T.cl_Sighting T.na_Sighting_place (Nat.le_of_ble_eq_true rfl) rfl fun H7 ok7 => kn _ _ _ ok7
/-! #### Craft, Site, Contents -/
abbrev crF (K : PySem.W.Frag) (c : Cr) : List (Str × Dn) := [("name", PS c.name), ("start", PI c.start), ("place", PBox K c.place), ("speed", PBox K c.speed), ("drift", PI c.drift), ("burns", PT K (c.burns.map (PBu K))), ("sightings", PT K (c.sights.map (PSg K)))]
abbrev crArgs (K : PySem.W.Frag) (c : Cr) : List Dn := [PS c.name, PI c.start, PBox K c.place, PBox K c.speed, PI c.drift, PQ K (c.burns.map (PBu K)), PQ K (c.sights.map (PSg K))]
abbrev sp_Craft (K : PySem.W.Frag) : Sp := spI (He.ga K "Craft") (crArgs K) okCr (crF K)
abbrev crDv (K : PySem.W.Frag) : List V := [.ref (He.dflAt at_Craft_init 0 K), .ref (He.dflAt at_Craft_init 1 K)]
abbrev crPs : List Str := ["self", "name", "start", "place", "speed", "drift", "burns", "sightings"]
theorem d_CraftW (T : Tx w K mg) {dvs : List V} {ds : List Value} (b : Binds K (fdf K at_Craft_init) crPs ds) (hv : Vals dvs ds) : Dc P w K mg base CX0 2 "Craft" (He.ga K "Craft") crPs dvs (sp_Craft K) := by
  have G_check := d_check (P := P) (base := base) T
  have G_is_name := d_is_name (P := P) (base := base) T
  have G_is_tick := d_is_tick (P := P) (base := base) T
  have G_is_box := d_is_box (P := P) (base := base) T
  obtain ⟨_, m_MOST⟩ := T.i_MOST
  obtain ⟨_, m_MOST_DRIFT⟩ := T.i_MOST_DRIFT
  refine dc_I T.F_Craft_init T.g_Craft T.mk_Craft b hv sc_Craft_init (fun _ => rfl) (fun c v => [some (PV v), some (PS c.name), some (PI c.start), some (PBox K c.place), some (PBox K c.speed), some (PI c.drift), some (PQ K (c.burns.map (PBu K))), some (PQ K (c.sights.map (PSg K)))]) (fun _ _ => rfl) fun cdv A' outer s H E hr => ⟨_, (pss_cons (ps_expr (pe_d G_check hr (pa_cons (pe_d G_is_name hr (pa_cons (pv 1) pa_nil)) (pa_cons pe_str pa_nil))))
    (pss_cons (ps_expr (pe_d G_check hr (pa_cons (pe_d G_is_tick hr (pa_cons (pv 2) pa_nil)) (pa_cons pe_str pa_nil))))
    (pss_cons (ps_expr (pe_d G_check hr (pa_cons (pe_d G_is_box hr (pa_cons (pv 3) (pa_cons (pe_glob (v := .int _) rfl m_MOST ⟨_, rfl⟩) pa_nil))) (pa_cons pe_str pa_nil))))
    (pss_cons (ps_expr (pe_d G_check hr (pa_cons (pe_d G_is_box hr (pa_cons (pv 4) (pa_cons (pe_glob (v := .int _) rfl m_MOST ⟨_, rfl⟩) pa_nil))) (pa_cons pe_str pa_nil))))
    (pss_cons (ps_expr (pe_d G_check hr (pa_cons (pe_chain op_le op_le pe_int (pv 5) (pe_glob (v := .int _) rfl m_MOST_DRIFT ⟨_, rfl⟩)) (pa_cons pe_str pa_nil))))
    (pss_cons (ps_fld (pv 0) (pv 1) rfl)
    (pss_cons (ps_fld (pv 0) (pv 2) rfl)
    (pss_cons (ps_fld (pv 0) (pv 3) rfl)
    (pss_cons (ps_fld (pv 0) (pv 4) rfl)
    (pss_cons (ps_fld (pv 0) (pv 5) rfl)
    (pss_cons (ps_fld (pv 0) (pe_callTy call_tuple_of rfl T.n_tuple (by decide +kernel) (pa_cons (pv 6) pa_nil)) rfl)
    (pss_one (ps_fld (pv 0) (pe_callTy call_tuple_of rfl T.n_tuple (by decide +kernel) (pa_cons (pv 7) pa_nil)) rfl))))))))))))), ?_⟩
  intro a pre B0 B p dx z D ok kn
  refine sq_drop ok (g_check (g_is_name (g_var rfl) pre.n) g_c rfl) fun H1 ok1 => ?_
  refine sq_drop ok1 (g_check (g_is_tick (g_var rfl) pre.t) g_c rfl) fun H2 ok2 => ?_
  refine sq_drop ok2 (g_check (g_is_box (g_var rfl) g_c pre.p) g_c rfl) fun H3 ok3 => ?_
  refine sq_drop ok3 (g_check (g_is_box (g_var rfl) g_c pre.s) g_c rfl) fun H4 ok4 => ?_
  refine sq_drop ok4 (g_check (g_chain g_c (g_var rfl) r_I0 (fun _ => g_c) r_I0) g_c (show (decide _ && decide _) = true by rw [decide_eq_true pre.d.1, decide_eq_true pre.d.2]; rfl)) fun H5 ok5 => ?_
  refine sq_fld ok5 (g_var rfl) (g_var rfl) T.cl_Craft T.na_Craft_name (Nat.le_of_ble_eq_true rfl) rfl fun H6 ok6 => ?_
  refine sq_fld ok6 (g_var rfl) (g_var rfl) T.cl_Craft T.na_Craft_start (Nat.le_of_ble_eq_true rfl) rfl fun H7 ok7 => ?_
  refine sq_fld ok7 (g_var rfl) (g_var rfl) T.cl_Craft T.na_Craft_place (Nat.le_of_ble_eq_true rfl) rfl fun H8 ok8 => ?_
  refine sq_fld ok8 (g_var rfl) (g_var rfl) T.cl_Craft T.na_Craft_speed (Nat.le_of_ble_eq_true rfl) rfl fun H9 ok9 => ?_
  refine sq_fld ok9 (g_var rfl) (g_var rfl) T.cl_Craft T.na_Craft_drift (Nat.le_of_ble_eq_true rfl) rfl fun Ha oka => ?_
  refine sq_fld oka (g_cb (a_cons (g_var rfl) a_nil) r_tuple) (g_var rfl) T.cl_Craft T.na_Craft_burns (Nat.le_of_ble_eq_true rfl) rfl fun Hb okb => ?_
  exact st_fld okb (g_cb (a_cons (g_var rfl) a_nil) r_tuple) (g_var rfl) T.cl_Craft T.na_Craft_sightings (Nat.le_of_ble_eq_true rfl) rfl fun Hc okc => kn _ _ _ okc
theorem d_Craft7 (T : Tx w K mg) : Dc P w K mg base CX0 2 "Craft" (He.ga K "Craft") crPs [] (sp_Craft K) := by
  obtain ⟨ds, hv, b⟩ := FunD.binds1 (ps := crPs) T.F_Craft_init 8 2 (by intro h; cases h) rfl (fun T kV doc pm an cdv ct us its h1 h2 => match us, its, h1, h2 with | [_, _, _, _, _, _, _, _], [_, _], _, _ => ⟨_, rfl, rfl⟩)
  exact d_CraftW T b hv
theorem d_Craft5 (T : Tx w K mg) : Dc P w K mg base CX0 2 "Craft" (He.ga K "Craft") crPs (crDv K) (sp_Craft K) := by
  obtain ⟨ds, hv, b⟩ := FunD.binds1 (ps := crPs) T.F_Craft_init 6 0 (by intro h; cases h) rfl (fun T kV doc pm an cdv ct us its h1 h2 => match us, its, h1, h2 with | [_, _, _, _, _, _], [_, _], _, _ => ⟨_, rfl, rfl⟩)
  exact d_CraftW T b hv
theorem g_Craft7 {c : Cr} (ha : EvG ta G (PS c.name)) (hb : EvG tb G (PI c.start)) (hc : EvG tc G (PBox K c.place)) (hd : EvG td G (PBox K c.speed)) (he : EvG te G (PI c.drift)) (hf : EvG tf G (PQ K (c.burns.map (PBu K)))) (hg : EvG tg G (PQ K (c.sights.map (PSg K)))) (h : okCr c) :
    EvG (tMake (He.ga K "Craft") (sp_Craft K) [] E (tCons ta (tCons tb (tCons tc (tCons td (tCons te (tCons tf (tCons tg tNil)))))))) G (PCr K c) := g_make (args := crArgs K) c h [_, _, _, _, _, _, _] [] [] rfl (fun _ => trivial) (a_cons ha (a_cons hb (a_cons hc (a_cons hd (a_cons he (a_cons hf (a_cons hg a_nil)))))))
theorem g_Craft5 (T : Tx w K mg) {c : Cr} (ha : EvG ta G (PS c.name)) (hb : EvG tb G (PI c.start)) (hc : EvG tc G (PBox K c.place)) (hd : EvG td G (PBox K c.speed)) (he : EvG te G (PI c.drift)) (h : okCr c) (h1 : c.burns = []) (h2 : c.sights = []) :
    EvG (tMake (He.ga K "Craft") (sp_Craft K) (crDv K) E (tCons ta (tCons tb (tCons tc (tCons td (tCons te tNil)))))) G (PCr K c) := by
  obtain ⟨n, st, pl, sp, dr, bu, si⟩ := c
  have h1 : bu = [] := h1
  have h2 : si = [] := h2
  subst h1 h2
  exact g_make (args := crArgs K) ⟨n, st, pl, sp, dr, [], []⟩ h [_, _, _, _, _] _ [PQ K [], PQ K []] rfl (fun H => ⟨.inr (T.dfl H).1, .inr (T.dfl H).2.1, trivial⟩) (a_cons ha (a_cons hb (a_cons hc (a_cons hd (a_cons he a_nil)))))
abbrev p3L (t : Int × Int × Int) : List Int := [t.1, t.2.1, t.2.2]
abbrev sp_Site (K : PySem.W.Frag) : Sp := spI (He.ga K "Site") (fun b : Si => [PS b.name, P3 K b.place]) okSi fun b => [("name", PS b.name), ("place", P3 K b.place)]
theorem g_Site {b : Si} (ha : EvG ta G (PS b.name)) (hb : EvG tb G (P3 K b.place)) (h : okSi b) : EvG (tMake (He.ga K "Site") (sp_Site K) [] E (tCons ta (tCons tb tNil))) G (PSi K b) := g_make (args := fun b : Si => [PS b.name, P3 K b.place]) b h [_, _] [] [] rfl (fun _ => trivial) (a_cons ha (a_cons hb a_nil))
theorem d_Site (T : Tx w K mg) : Dc P w K mg base CX0 2 "Site" (He.ga K "Site") ["self", "name", "place"] [] (sp_Site K) := by
  have G_check := d_check (P := P) (base := base) T
  have G_is_name := d_is_name (P := P) (base := base) T
  obtain ⟨_, m_MOST⟩ := T.i_MOST
  refine dc_I T.F_Site_init T.g_Site T.mk_Site T.B_Site_init .nil sc_Site_init (fun _ => rfl) (fun b v => [some (PV v), some (PS b.name), some (P3 K b.place), none, none]) (fun _ _ => rfl) fun cdv A' outer s H E hr => ⟨_, (pss_cons (ps_expr (pe_d G_check hr (pa_cons (pe_d G_is_name hr (pa_cons (pv 1) pa_nil)) (pa_cons pe_str pa_nil))))
    (pss_cons (ps_set (i := 3) sc_Site_init.nd rfl (by first | exact Or.inl rfl | exact Or.inr rfl) pe_bl)
    (pss_cons (ps_for PassesOwn.never rfl (pi_tup (pv 2)) (pg_name (i := 4) sc_Site_init.nd rfl (by first | exact Or.inl rfl | exact Or.inr rfl)) (pss_one (ps_set (i := 3) sc_Site_init.nd rfl (by first | exact Or.inl rfl | exact Or.inr rfl) (pe_or (pv 3) (pe_one (pe_cmpR op_ne (pv 4) pe_int (nomark _)))))))
    (pss_cons (ps_for PassesOwn.never rfl (pi_tup (pv 2)) (pg_name (i := 4) sc_Site_init.nd rfl (by first | exact Or.inl rfl | exact Or.inr rfl)) (pss_one (ps_set (i := 3) sc_Site_init.nd rfl (by first | exact Or.inl rfl | exact Or.inr rfl) (pe_and (pv 3) (pe_one (pe_chain op_le op_le (pe_un un_neg (pe_glob (v := .int _) rfl m_MOST ⟨_, rfl⟩)) (pv 4) (pe_glob (v := .int _) rfl m_MOST ⟨_, rfl⟩)))))))
    (pss_cons (ps_expr (pe_d G_check hr (pa_cons (pv 3) (pa_cons pe_str pa_nil))))
    (pss_cons (ps_fld (pv 0) (pv 1) rfl)
    (pss_one (ps_fld (pv 0) (pv 2) rfl)))))))), ?_⟩
  intro a pre B0 B p dx z D ok kn
  refine sq_drop ok (g_check (g_is_name (g_var rfl) pre.n) g_c rfl) fun H1 ok1 => ?_
  refine sq_asg ok1 g_c fun z2 H2 ok2 => ?_
  have hz : ∀ n : Int, (!decide (V.int n = V.int 0)) = !decide (n = 0) := fun n => by
    by_cases h : n = 0
    · rw [decide_eq_true h, decide_eq_true (congrArg V.int h)]
    · rw [decide_eq_false h, decide_eq_false (fun z => h (V.int.inj z))]
  refine sq (st_forTm (p3L a.place) (fun i => PI i) (fun i (x : Bool) => x = ((p3L a.place).take i).any fun n => !decide (n = 0)) (fun _ x => [some (PV (.ref p)), some (PS a.name), some (P3 K a.place), some (PB x), none]) (fun y _ x => [some (PV (.ref p)), some (PS a.name), some (P3 K a.place), some (PB x), some (PI y)]) (fun _ _ => some (owI p (He.ga K "Site") dx [])) false rfl ok2 (g_var rfl) (fun y i u => tg_name) (fun C0 C up i y x hy r s' H' ok3 N hN => ?_) (fun x s' H' r ok3 => ?_))
  · refine st_asg ok3 (g_orV (g_var rfl) (fun _ => g_op (g_var rfl) g_c (r_ne rfl))) fun z4 H4 ok4 => hN _ _ (x || !decide (V.int y = V.int 0)) ?_ (ok4.forget [4])
    rw [take_at hy, List.any_append, ← r, hz]
    simp
  rw [List.take_length] at r
  have hx : x = true := by
    rw [r]
    by_cases h1 : a.place.1 = 0
    · by_cases h2 : a.place.2.1 = 0
      · have h3 : ¬ a.place.2.2 = 0 := fun h3 => pre.z ⟨h1, h2, h3⟩
        simp [h3]
      · simp [h2]
    · simp [h1]
  subst hx
  have hm : ∀ y ∈ p3L a.place, -MOST ≤ y ∧ y ≤ MOST := fun y hy => by
    have hy : y = a.place.1 ∨ y = a.place.2.1 ∨ y = a.place.2.2 := by simpa using hy
    obtain ⟨q1, q2, q3⟩ := pre.p
    rcases hy with rfl | rfl | rfl <;> assumption
  refine sq (st_forTm (p3L a.place) (fun i => PI i) (fun i (x : Bool) => x = true) (fun _ x => [some (PV (.ref p)), some (PS a.name), some (P3 K a.place), some (PB x), none]) (fun y _ x => [some (PV (.ref p)), some (PS a.name), some (P3 K a.place), some (PB x), some (PI y)]) (fun _ _ => some (owI p (He.ga K "Site") dx [])) true rfl ok3 (g_var rfl) (fun y i u => tg_name) (fun C0 C up i y x hy r s' H' ok3 N hN => ?_) (fun x s' H' r ok5 => ?_))
  · subst r
    have hy2 := hm y (List.mem_of_getElem? hy)
    refine st_asg ok3 (g_andV (g_var rfl) (fun _ => g_chain (g_U g_c) (g_var rfl) r_I0 (fun _ => g_c) r_I0)) fun z4 H4 ok4 => hN _ _ _ ?_ (ok4.forget [4])
    rw [decide_eq_true hy2.1, decide_eq_true hy2.2]
    rfl
  subst r
  refine sq_drop ok5 (g_check (g_var rfl) g_c rfl) fun H6 ok6 => ?_
  refine sq_fld ok6 (g_var rfl) (g_var rfl) T.cl_Site T.na_Site_name (Nat.le_of_ble_eq_true rfl) rfl fun H7 ok7 => ?_
  exact st_fld ok7 (g_var rfl) (g_var rfl) T.cl_Site T.na_Site_place (Nat.le_of_ble_eq_true rfl) rfl fun H8 ok8 => kn _ _ _ ok8
abbrev ctF (K : PySem.W.Frag) (c : Ct) : List (Str × Dn) := [("body", PBd K c.body), ("stride", PI c.stride), ("fineness", PI c.fine), ("crafts", PT K (c.crafts.map (PCr K))), ("sites", PT K (c.sites.map (PSi K)))]
abbrev ctArgs (K : PySem.W.Frag) (c : Ct) : List Dn := [PBd K c.body, PI c.stride, PI c.fine, PQ K (c.crafts.map (PCr K)), PQ K (c.sites.map (PSi K))]
abbrev okSF (c : Ct) : Prop := (1 ≤ c.stride ∧ c.stride ≤ 1000) ∧ (0 ≤ c.fine ∧ c.fine ≤ 6)
abbrev sp_Contents (K : PySem.W.Frag) : Sp := spI (He.ga K "Contents") (ctArgs K) okSF (ctF K)
abbrev ctDv (K : PySem.W.Frag) : List V := [.ref (He.dflAt at_Contents_init 0 K), .ref (He.dflAt at_Contents_init 1 K)]
abbrev ctPs : List Str := ["self", "body", "stride", "fineness", "crafts", "sites"]
theorem d_ContentsW (T : Tx w K mg) {dvs : List V} {ds : List Value} (b : Binds K (fdf K at_Contents_init) ctPs ds) (hv : Vals dvs ds) : Dc P w K mg base CX0 2 "Contents" (He.ga K "Contents") ctPs dvs (sp_Contents K) := by
  have G_check := d_check (P := P) (base := base) T
  refine dc_I T.F_Contents_init T.g_Contents T.mk_Contents b hv sc_Contents_init (fun _ => rfl) (fun c v => [some (PV v), some (PBd K c.body), some (PI c.stride), some (PI c.fine), some (PQ K (c.crafts.map (PCr K))), some (PQ K (c.sites.map (PSi K)))]) (fun _ _ => rfl) fun cdv A' outer s H E hr => ⟨_, (pss_cons (ps_expr (pe_d G_check hr (pa_cons (pe_chain op_le op_le pe_int (pv 2) pe_int) (pa_cons pe_str pa_nil))))
    (pss_cons (ps_expr (pe_d G_check hr (pa_cons (pe_chain op_le op_le pe_int (pv 3) pe_int) (pa_cons pe_str pa_nil))))
    (pss_cons (ps_fld (pv 0) (pv 1) rfl)
    (pss_cons (ps_fld (pv 0) (pv 2) rfl)
    (pss_cons (ps_fld (pv 0) (pv 3) rfl)
    (pss_cons (ps_fld (pv 0) (pe_callTy call_tuple_of rfl T.n_tuple (by decide +kernel) (pa_cons (pv 4) pa_nil)) rfl)
    (pss_one (ps_fld (pv 0) (pe_callTy call_tuple_of rfl T.n_tuple (by decide +kernel) (pa_cons (pv 5) pa_nil)) rfl)))))))), ?_⟩
  intro a pre B0 B p dx z D ok kn
  refine sq_drop ok (g_check (g_chain g_c (g_var rfl) r_I0 (fun _ => g_c) r_I0) g_c (show (decide _ && decide _) = true by rw [decide_eq_true pre.1.1, decide_eq_true pre.1.2]; rfl)) fun H1 ok1 => ?_
  refine sq_drop ok1 (g_check (g_chain g_c (g_var rfl) r_I0 (fun _ => g_c) r_I0) g_c (show (decide _ && decide _) = true by rw [decide_eq_true pre.2.1, decide_eq_true pre.2.2]; rfl)) fun H2 ok2 => ?_
  refine sq_fld ok2 (g_var rfl) (g_var rfl) T.cl_Contents T.na_Contents_body (Nat.le_of_ble_eq_true rfl) rfl fun H6 ok6 => ?_
  refine sq_fld ok6 (g_var rfl) (g_var rfl) T.cl_Contents T.na_Contents_stride (Nat.le_of_ble_eq_true rfl) rfl fun H7 ok7 => ?_
  refine sq_fld ok7 (g_var rfl) (g_var rfl) T.cl_Contents T.na_Contents_fineness (Nat.le_of_ble_eq_true rfl) rfl fun H8 ok8 => ?_
  refine sq_fld ok8 (g_cb (a_cons (g_var rfl) a_nil) r_tuple) (g_var rfl) T.cl_Contents T.na_Contents_crafts (Nat.le_of_ble_eq_true rfl) rfl fun Hb okb => ?_
  exact st_fld okb (g_cb (a_cons (g_var rfl) a_nil) r_tuple) (g_var rfl) T.cl_Contents T.na_Contents_sites (Nat.le_of_ble_eq_true rfl) rfl fun Hc okc => kn _ _ _ okc
theorem d_Contents5 (T : Tx w K mg) : Dc P w K mg base CX0 2 "Contents" (He.ga K "Contents") ctPs [] (sp_Contents K) := by
  obtain ⟨ds, hv, b⟩ := FunD.binds1 (ps := ctPs) T.F_Contents_init 6 2 (by intro h; cases h) rfl (fun T kV doc pm an cdv ct us its h1 h2 => match us, its, h1, h2 with | [_, _, _, _, _, _], [_, _], _, _ => ⟨_, rfl, rfl⟩)
  exact d_ContentsW T b hv
theorem d_Contents3 (T : Tx w K mg) : Dc P w K mg base CX0 2 "Contents" (He.ga K "Contents") ctPs (ctDv K) (sp_Contents K) := by
  obtain ⟨ds, hv, b⟩ := FunD.binds1 (ps := ctPs) T.F_Contents_init 4 0 (by intro h; cases h) rfl (fun T kV doc pm an cdv ct us its h1 h2 => match us, its, h1, h2 with | [_, _, _, _], [_, _], _, _ => ⟨_, rfl, rfl⟩)
  exact d_ContentsW T b hv
theorem g_Contents5 {c : Ct} (ha : EvG ta G (PBd K c.body)) (hb : EvG tb G (PI c.stride)) (hc : EvG tc G (PI c.fine)) (hd : EvG td G (PQ K (c.crafts.map (PCr K)))) (he : EvG te G (PQ K (c.sites.map (PSi K)))) (h : okSF c) :
    EvG (tMake (He.ga K "Contents") (sp_Contents K) [] E (tCons ta (tCons tb (tCons tc (tCons td (tCons te tNil)))))) G (PCt K c) := g_make (args := ctArgs K) c h [_, _, _, _, _] [] [] rfl (fun _ => trivial) (a_cons ha (a_cons hb (a_cons hc (a_cons hd (a_cons he a_nil)))))
theorem g_Contents3 (T : Tx w K mg) {c : Ct} (ha : EvG ta G (PBd K c.body)) (hb : EvG tb G (PI c.stride)) (hc : EvG tc G (PI c.fine)) (h : okSF c) (h1 : c.crafts = []) (h2 : c.sites = []) :
    EvG (tMake (He.ga K "Contents") (sp_Contents K) (ctDv K) E (tCons ta (tCons tb (tCons tc tNil)))) G (PCt K c) := by
  obtain ⟨bo, st, fi, cr, si⟩ := c
  have h1 : cr = [] := h1
  have h2 : si = [] := h2
  subst h1 h2
  exact g_make (args := ctArgs K) ⟨bo, st, fi, [], []⟩ h [_, _, _] _ [PQ K [], PQ K []] rfl (fun H => ⟨.inr (T.dfl H).2.2.1, .inr (T.dfl H).2.2.2, trivial⟩) (a_cons ha (a_cons hb (a_cons hc a_nil)))
end
end K9
set_option Elab.async false
set_option linter.all false
set_option maxRecDepth 100000
set_option maxHeartbeats 4000000
/-! K9D5: equality of data; a craft's data; names. -/
namespace K9
open PySem PySem.Spec PyProof.Rows L2
/-! ### data: what == looks at -/
def DpG (K : PySem.W.Frag) (d : Dn) (p : PyData) : Prop := ∀ (H : Hp) (v : V), d.holds H v → Dp K H v p
section
variable {K : PySem.W.Frag} {G : Cn} {ta tb : TE} {a b : Dn} {p q : PyData}
theorem dp_I {i : Int} : DpG K (PI i) (.int i) := fun H v e => by
  have e : v = .int i := e
  subst e
  exact .int i
theorem dp_S {x : Str} : DpG K (PS x) (.str x) := fun H v e => by
  have e : v = .str x := e
  subst e
  exact .str x
inductive DpL (K : PySem.W.Frag) : List Dn → List PyData → Prop
  | nil : DpL K [] []
  | cons {d : Dn} {ds : List Dn} {p : PyData} {ps : List PyData} : DpG K d p → DpL K ds ps → DpL K (d :: ds) (p :: ps)
theorem DpL.all {H : Hp} : ∀ {ds : List Dn} {ps : List PyData} {vs : List V}, DpL K ds ps → AllH H ds vs → DpAll K H vs ps
  | [], _, [], .nil, _ => .nil
  | _ :: _, _, _ :: _, .cons h t, a => .cons (h _ _ a.1) (DpL.all t a.2)
  | [], _, _ :: _, _, a => a.elim
  | _ :: _, _, [], _, a => a.elim
theorem dp_T {ds : List Dn} {ps : List PyData} (h : DpL K ds ps) : DpG K (PT K ds) (.tuple ps) := fun H v ⟨a, vs, e, hs, ha⟩ => by
  subst e
  exact .tup hs (h.all ha)
theorem dp_L {ds : List Dn} {ps : List PyData} (h : DpL K ds ps) : DpG K (PL ds) (.list ps) := fun H v ⟨a, vs, e, hs, ha⟩ => by
  subst e
  exact .lst (SqL.of hs) (h.all ha)
theorem DpL.map {A : Type} {f : A → Dn} {g : A → PyData} (h : ∀ x, DpG K (f x) (g x)) : ∀ xs : List A, DpL K (xs.map f) (xs.map g)
  | [] => .nil
  | x :: xs => .cons (h x) (DpL.map h xs)
theorem DpG.up {H0 H : Hp} {v : V} (h : DpG K a p) (sm : Same H0 H) (k : a.holds H0 v) : Dp K H v p := h H v (a.mono sm k)
theorem g_deepeq (ha : EvG ta G a) (hb : EvG tb G b) (hp : DpG K a p) (hq : DpG K b q) (sp : SeqAt.shaped p = true) (sq : SeqAt.shaped q = true) : EvG (tOp (rEqD K) ta tb) G (PB (PyData.eqv p q)) :=
  g_op ha hb fun x y H0 H sm hx hy Q k => ⟨p, q, hp.up sm hx, hq.up sm hy, sp, sq, k _ H0 H (.refl sm) rfl⟩
theorem g_deepne (ha : EvG ta G a) (hb : EvG tb G b) (hp : DpG K a p) (hq : DpG K b q) (sp : SeqAt.shaped p = true) (sq : SeqAt.shaped q = true) : EvG (tOp (rNeD K) ta tb) G (PB (!PyData.eqv p q)) :=
  g_op ha hb fun x y H0 H sm hx hy Q k => ⟨p, q, hp.up sm hx, hq.up sm hy, sp, sq, k _ H0 H (.refl sm) rfl⟩
end
/-! the mirror's data -/
abbrev dI (a : Iv) : PyData := .tuple [.int a.1, .int a.2]
abbrev dB (b : Box) : PyData := .tuple [dI b.1, dI b.2.1, dI b.2.2]
abbrev d3 (t : Int × Int × Int) : PyData := .tuple [.int t.1, .int t.2.1, .int t.2.2]
abbrev dBu (b : Bu) : PyData := .tuple [.int b.b, .int b.e, dB b.push]
abbrev dSg (s : Sg) : PyData := .tuple [.int s.t, dB s.place]
abbrev dCr (c : Cr) : PyData := .tuple [.str c.name, .int c.start, dB c.place, dB c.speed, .int c.drift, .tuple (c.burns.map dBu), .tuple (c.sights.map dSg)]
abbrev dBd (b : Bd) : PyData := .tuple [.int b.mu, .int b.obl, d3 b.turn]
section
variable (K : PySem.W.Frag)
theorem dpI (a : Iv) : DpG K (PIv K a) (dI a) := dp_T (.cons dp_I (.cons dp_I .nil))
theorem dpB (b : Box) : DpG K (PBox K b) (dB b) := dp_T (.cons (dpI K _) (.cons (dpI K _) (.cons (dpI K _) .nil)))
theorem dp3 (t : Int × Int × Int) : DpG K (P3 K t) (d3 t) := dp_T (.cons dp_I (.cons dp_I (.cons dp_I .nil)))
abbrev PBuT (b : Bu) : Dn := PT K [PI b.b, PI b.e, PBox K b.push]
abbrev PSgT (s : Sg) : Dn := PT K [PI s.t, PBox K s.place]
abbrev PCrT (c : Cr) : Dn := PT K [PS c.name, PI c.start, PBox K c.place, PBox K c.speed, PI c.drift, PT K (c.burns.map (PBuT K)), PT K (c.sights.map (PSgT K))]
abbrev PBdT (b : Bd) : Dn := PT K [PI b.mu, PI b.obl, P3 K b.turn]
theorem dpBu (b : Bu) : DpG K (PBuT K b) (dBu b) := dp_T (.cons dp_I (.cons dp_I (.cons (dpB K _) .nil)))
theorem dpSg (s : Sg) : DpG K (PSgT K s) (dSg s) := dp_T (.cons dp_I (.cons (dpB K _) .nil))
theorem dpCr (c : Cr) : DpG K (PCrT K c) (dCr c) := dp_T (.cons dp_S (.cons dp_I (.cons (dpB K _) (.cons (dpB K _) (.cons dp_I (.cons (dp_T (DpL.map (dpBu K) _)) (.cons (dp_T (DpL.map (dpSg K) _)) .nil)))))))
theorem dpBd (b : Bd) : DpG K (PBdT K b) (dBd b) := dp_T (.cons dp_I (.cons dp_I (.cons (dp3 K _) .nil)))
end
/-! shaped; equal data are equal -/
theorem shaped_of {d : PyData} (h1 : d.canLay0 = true) (h2 : d.depth ≤ 64) : SeqAt.shaped d = true := by
  unfold SeqAt.shaped
  rw [h1, decide_eq_true h2]
  rfl
theorem canAll {A : Type} {f : A → PyData} (h : ∀ x, (f x).canLay0 = true) : ∀ xs : List A, PyData.canLayAll0 (xs.map f) = true
  | [] => rfl
  | x :: xs => by
    show ((f x).canLay0 && PyData.canLayAll0 (xs.map f)) = true
    rw [h, canAll h]
    rfl
theorem depAll {A : Type} {f : A → PyData} {n : Nat} (h : ∀ x, (f x).depth ≤ n) : ∀ xs : List A, PyData.depthAll (xs.map f) ≤ n
  | [] => Nat.zero_le _
  | x :: xs => by
    show max (f x).depth (PyData.depthAll (xs.map f)) ≤ n
    have h1 := h x
    have h2 := depAll h xs
    omega
theorem dB_can (b : Box) : (dB b).canLay0 = true := rfl
theorem dB_dep (b : Box) : (dB b).depth = 2 := rfl
theorem okNm_ok {t : Str} (h : okNm t) : PyData.strOk t = true := by
  rcases h with rfl | rfl <;> decide +kernel
theorem dCr_ok {c : Cr} (h : okNm c.name) : SeqAt.shaped (dCr c) = true := by
  refine shaped_of ?_ ?_
  · show (PyData.strOk c.name && (true && (true && (true && (true && (PyData.canLayAll0 (c.burns.map dBu) && (PyData.canLayAll0 (c.sights.map dSg) && true))))))) = true
    rw [okNm_ok h, canAll (fun _ => rfl), canAll (fun _ => rfl)]
    rfl
  · have h1 := depAll (f := dBu) (n := 3) (fun x => Nat.le_refl _) c.burns
    have h2 := depAll (f := dSg) (n := 3) (fun x => Nat.le_refl _) c.sights
    show max 0 (max 0 (max 2 (max 2 (max 0 (max (PyData.depthAll (c.burns.map dBu) + 1) (max (PyData.depthAll (c.sights.map dSg) + 1) 0)))))) + 1 ≤ 64
    omega
theorem dBd_ok (b : Bd) : SeqAt.shaped (dBd b) = true := shaped_of rfl (by show 2 ≤ 64; decide)
theorem dB_ok (b : Box) : SeqAt.shaped (dB b) = true := shaped_of rfl (by show 2 ≤ 64; decide)
theorem d3_ok (t : Int × Int × Int) : SeqAt.shaped (d3 t) = true := shaped_of rfl (by show 1 ≤ 64; decide)
theorem dBu_ok (b : Bu) : SeqAt.shaped (dBu b) = true := shaped_of rfl (by show 3 ≤ 64; decide)
theorem dSg_ok (b : Sg) : SeqAt.shaped (dSg b) = true := shaped_of rfl (by show 3 ≤ 64; decide)
section
open PyData
theorem eT {xs ys : List PyData} : eqv (.tuple xs) (.tuple ys) = eqvAll xs ys := by simp only [eqv]
theorem eC {x y : PyData} {xs ys : List PyData} : eqvAll (x :: xs) (y :: ys) = (eqv x y && eqvAll xs ys) := by simp only [eqvAll]
theorem eN : eqvAll [] [] = true := by simp only [eqvAll]
theorem eI {i j : Int} : eqv (.int i) (.int j) = (i == j) := by simp only [eqv]
theorem eS {x y : Str} : eqv (.str x) (.str y) = (x == y) := by simp only [eqv]
theorem eI_of {a b : Iv} (h : eqv (dI a) (dI b) = true) : a = b := by
  simp only [eT, eC, eI, eN, Bool.and_eq_true, beq_iff_eq] at h
  exact Prod.ext h.1 h.2.1
theorem eB_of {a b : Box} (h : eqv (dB a) (dB b) = true) : a = b := by
  rw [dB, dB, eT, eC, eC, eC, eN] at h
  simp only [Bool.and_eq_true] at h
  have h1 := eI_of h.1
  have h2 := eI_of h.2.1
  have h3 := eI_of h.2.2.1
  exact Prod.ext h1 (Prod.ext h2 h3)
theorem eAll_of {A : Type} {f : A → PyData} (h : ∀ x y, eqv (f x) (f y) = true → x = y) : ∀ xs ys : List A, eqvAll (xs.map f) (ys.map f) = true → xs = ys
  | [], [], _ => rfl
  | x :: xs, y :: ys, e => by
    have e : (eqv (f x) (f y) && eqvAll (xs.map f) (ys.map f)) = true := by
      rw [← eC]
      exact e
    obtain ⟨e1, e2⟩ := Bool.and_eq_true_iff.mp e
    rw [h x y e1, eAll_of h xs ys e2]
  | [], _ :: _, e => by simp [eqvAll] at e
  | _ :: _, [], e => by simp [eqvAll] at e
theorem eBu_of (a b : Bu) (h : eqv (dBu a) (dBu b) = true) : a = b := by
  obtain ⟨a1, a2, a3⟩ := a
  obtain ⟨b1, b2, b3⟩ := b
  rw [dBu, dBu, eT, eC, eC, eC, eN, eI, eI] at h
  simp only [Bool.and_eq_true, beq_iff_eq] at h
  rw [h.1, h.2.1, eB_of h.2.2.1]
theorem eSg_of (a b : Sg) (h : eqv (dSg a) (dSg b) = true) : a = b := by
  obtain ⟨a1, a2⟩ := a
  obtain ⟨b1, b2⟩ := b
  rw [dSg, dSg, eT, eC, eC, eN, eI] at h
  simp only [Bool.and_eq_true, beq_iff_eq] at h
  rw [h.1, eB_of h.2.1]
theorem eCr_of {a b : Cr} (h : eqv (dCr a) (dCr b) = true) : a = b := by
  obtain ⟨a1, a2, a3, a4, a5, a6, a7⟩ := a
  obtain ⟨b1, b2, b3, b4, b5, b6, b7⟩ := b
  rw [dCr, dCr, eT, eC, eC, eC, eC, eC, eC, eC, eN, eS, eI, eI, eT (xs := List.map dBu _), eT (xs := List.map dSg _)] at h
  simp only [Bool.and_eq_true, beq_iff_eq] at h
  obtain ⟨h1, h2, h3, h4, h5, h6, h7, _⟩ := h
  rw [h1, h2, eB_of h3, eB_of h4, h5, eAll_of eBu_of _ _ h6, eAll_of eSg_of _ _ h7]
theorem eBd_of {a b : Bd} (h : eqv (dBd a) (dBd b) = true) : a = b := by
  obtain ⟨a1, a2, a3⟩ := a
  obtain ⟨b1, b2, b3⟩ := b
  simp only [dBd, d3, eT, eC, eI, eN, Bool.and_eq_true, beq_iff_eq] at h
  obtain ⟨h1, h2, ⟨h3, h4, h5, _⟩, _⟩ := h
  rw [h1, h2, show a3 = b3 from Prod.ext h3 (Prod.ext h4 h5)]
end
/-! #### craft_data, same_craft, body_data -/
section
variable {P : Program} {w : World} {K : PySem.W.Frag} {mg : Str → Option Value} {base : Heap} {G : Cn} {ta tb tc td te tf tg th : TE} {E : XK}
abbrev crS (c : Cr) : Prop := c.burns.length ≤ 1000 ∧ c.sights.length ≤ 1000
abbrev sp_craft_data (K : PySem.W.Frag) : Sp := spF (fun c : Cr => [PCr K c]) crS (PCrT K)
theorem g_craft_data {c : Cr} (ha : EvG ta G (PCr K c)) (h : crS c) : EvG (tCall (sp_craft_data K) [] E (tCons ta tNil)) G (PCrT K c) := g_callF (args := fun c : Cr => [PCr K c]) c h (a_cons ha a_nil)
theorem d_craft_data (T : Tx w K mg) : Df P w K mg base CX0 1 "craft_data" ["craft"] (sp_craft_data K) := by
  refine df_F T.F_craft_data T.g_craft_data T.B_craft_data sc_craft_data (fun _ => rfl) (fun c => [some (PCr K c), none, none, none, none]) (fun _ => rfl) fun cdv A' outer s H E hr => ⟨_, (pss_cons (ps_set (i := 2) sc_craft_data.nd rfl (by first | exact Or.inl rfl | exact Or.inr rfl) (pe_callTy call_tuple_of rfl T.n_tuple (by decide +kernel) (pa_cons (pe_lc (own := [("burn", 1)]) (g := (gName 1)) rfl sc_craft_data.nd (pi_tup (pe_fld (pv 0) rfl)) (blkOk_by (N := N_craft_data) (sc := defScope S_craft_data) (by decide +kernel)) (fun _ _ _ _ _ => (pg_name (i := 1) sc_craft_data.nd rfl (Or.inl rfl))) (fun _ _ _ _ _ => pts_nil) (fun _ _ _ _ _ => (pe_tup (pa_cons (pe_fldK (K := K) (pv 1) rfl) (pa_cons (pe_fldK (K := K) (pv 1) rfl) (pa_cons (pe_fldK (K := K) (pv 1) rfl) pa_nil)))))) pa_nil)))
    (pss_cons (ps_set (i := 4) sc_craft_data.nd rfl (by first | exact Or.inl rfl | exact Or.inr rfl) (pe_callTy call_tuple_of rfl T.n_tuple (by decide +kernel) (pa_cons (pe_lc (own := [("sighting", 3)]) (g := (gName 3)) rfl sc_craft_data.nd (pi_tup (pe_fld (pv 0) rfl)) (blkOk_by (N := N_craft_data) (sc := defScope S_craft_data) (by decide +kernel)) (fun _ _ _ _ _ => (pg_name (i := 3) sc_craft_data.nd rfl (Or.inl rfl))) (fun _ _ _ _ _ => pts_nil) (fun _ _ _ _ _ => (pe_tup (pa_cons (pe_fldK (K := K) (pv 3) rfl) (pa_cons (pe_fldK (K := K) (pv 3) rfl) pa_nil))))) pa_nil)))
    (pss_one (ps_ret (pe_tup (pa_cons (pe_fld (pv 0) rfl) (pa_cons (pe_fld (pv 0) rfl) (pa_cons (pe_fld (pv 0) rfl) (pa_cons (pe_fld (pv 0) rfl) (pa_cons (pe_fld (pv 0) rfl) (pa_cons (pv 2) (pa_cons (pv 4) pa_nil)))))))))))), ?_⟩
  intro c pre B0 z D ok kr kn
  refine sq_asg ok (g_cb (a_cons (EvG.imp (g_lcT0 (vs := [1]) c.burns (PBu K) (PBuT K) (fun b => [some (PCr K c), some (PBu K b), none, none, none]) (g_fld (g_var rfl) T.cl_Craft T.na_Craft_burns rfl) (by have := pre.1; omega) (fun _ _ => tc_name) (fun b _ => g_tup (a_cons (g_fld (g_var rfl) T.cl_Burn T.na_Burn_begin rfl) (a_cons (g_fld (g_var rfl) T.cl_Burn T.na_Burn_end rfl) (a_cons (g_fld (g_var rfl) T.cl_Burn T.na_Burn_push rfl) a_nil))))) fun _ _ => pq_l) a_nil) r_tuple) fun z1 H1 ok1 => ?_
  refine sq_asg ok1 (g_cb (a_cons (EvG.imp (g_lcT0 (vs := [3]) c.sights (PSg K) (PSgT K) (fun b => [some (PCr K c), none, some (PT K (c.burns.map (PBuT K))), some (PSg K b), none]) (g_fld (g_var rfl) T.cl_Craft T.na_Craft_sightings rfl) (by have := pre.2; omega) (fun _ _ => tc_name) (fun b _ => g_tup (a_cons (g_fld (g_var rfl) T.cl_Sighting T.na_Sighting_at rfl) (a_cons (g_fld (g_var rfl) T.cl_Sighting T.na_Sighting_place rfl) a_nil)))) fun _ _ => pq_l) a_nil) r_tuple) fun z2 H2 ok2 => ?_
  exact st_ret ok2 (g_tup (a_cons (g_fld (g_var rfl) T.cl_Craft T.na_Craft_name rfl) (a_cons (g_fld (g_var rfl) T.cl_Craft T.na_Craft_start rfl) (a_cons (g_fld (g_var rfl) T.cl_Craft T.na_Craft_place rfl) (a_cons (g_fld (g_var rfl) T.cl_Craft T.na_Craft_speed rfl) (a_cons (g_fld (g_var rfl) T.cl_Craft T.na_Craft_drift rfl) (a_cons (g_var rfl) (a_cons (g_var rfl) a_nil)))))))) kr
abbrev sp_same_craft (K : PySem.W.Frag) : Sp := spF (fun c : Cr × Cr => [PCr K c.1, PCr K c.2]) (fun c => (crS c.1 ∧ crS c.2) ∧ okNm c.1.name ∧ okNm c.2.name) fun c => PB (PyData.eqv (dCr c.1) (dCr c.2))
theorem g_same_craft {a b : Cr} (ha : EvG ta G (PCr K a)) (hb : EvG tb G (PCr K b)) (h : (crS a ∧ crS b) ∧ okNm a.name ∧ okNm b.name) : EvG (tCall (sp_same_craft K) [] E (tCons ta (tCons tb tNil))) G (PB (PyData.eqv (dCr a) (dCr b))) := g_callF (args := fun c : Cr × Cr => [PCr K c.1, PCr K c.2]) (res := fun c : Cr × Cr => PB (PyData.eqv (dCr c.1) (dCr c.2))) (a, b) h (a_cons ha (a_cons hb a_nil))
theorem d_same_craft (T : Tx w K mg) : Df P w K mg base CX0 2 "same_craft" ["first", "second"] (sp_same_craft K) := by
  have G_craft_data := d_craft_data (P := P) (base := base) T
  refine df_F T.F_same_craft T.g_same_craft T.B_same_craft sc_same_craft (fun _ => rfl) (fun c => [some (PCr K c.1), some (PCr K c.2)]) (fun _ => rfl) fun cdv A' outer s H E hr => ⟨_, (pss_one (ps_ret (pe_cmpR (op_eqD hr.units) (pe_d G_craft_data hr (pa_cons (pv 0) pa_nil)) (pe_d G_craft_data hr (pa_cons (pv 1) pa_nil)) (nomark _)))), ?_⟩
  intro c pre B0 z D ok kr kn
  exact st_ret ok (g_deepeq (g_craft_data (g_var rfl) pre.1.1) (g_craft_data (g_var rfl) pre.1.2) (dpCr K _) (dpCr K _) (dCr_ok pre.2.1) (dCr_ok pre.2.2)) kr
abbrev sp_body_data (K : PySem.W.Frag) : Sp := spF (fun b : Bd => [PBd K b]) (fun _ => True) (PBdT K)
theorem g_body_data {b : Bd} (ha : EvG ta G (PBd K b)) : EvG (tCall (sp_body_data K) [] E (tCons ta tNil)) G (PBdT K b) := g_callF (args := fun b : Bd => [PBd K b]) b trivial (a_cons ha a_nil)
theorem d_body_data (T : Tx w K mg) : Df P w K mg base CX0 1 "body_data" ["body"] (sp_body_data K) := by
  refine df_F T.F_body_data T.g_body_data T.B_body_data sc_body_data (fun _ => rfl) (fun c => [some (PBd K c)]) (fun _ => rfl) fun cdv A' outer s H E hr => ⟨_, (pss_one (ps_ret (pe_tup (pa_cons (pe_fld (pv 0) rfl) (pa_cons (pe_fld (pv 0) rfl) (pa_cons (pe_fld (pv 0) rfl) pa_nil)))))), ?_⟩
  intro c pre B0 z D ok kr kn
  exact st_ret ok (g_tup (a_cons (g_fld (g_var rfl) T.cl_Body T.na_Body_mu rfl) (a_cons (g_fld (g_var rfl) T.cl_Body T.na_Body_oblateness rfl) (a_cons (g_fld (g_var rfl) T.cl_Body T.na_Body_turn rfl) a_nil)))) kr
/-! #### names -/
structure NR where
  C : Addr
  fs : List (Str × Dn)
  name : Str
abbrev PNR (r : NR) : Dn := PO r.C r.fs
structure okN (K : PySem.W.Frag) (r : NR) : Prop where
  c : Cls K r.C
  n : NoAttr K r.C "name"
  l : r.fs.lookup ("name" : Str) = some (PS r.name)
abbrev nrC (K : PySem.W.Frag) (c : Cr) : NR := ⟨He.ga K "Craft", crF K c, c.name⟩
abbrev nrS (K : PySem.W.Frag) (c : Si) : NR := ⟨He.ga K "Site", [("name", PS c.name), ("place", P3 K c.place)], c.name⟩
theorem okN_C (T : Tx w K mg) (c : Cr) : okN K (nrC K c) := ⟨T.cl_Craft, T.na_Craft_name, rfl⟩
theorem okN_S (T : Tx w K mg) (c : Si) : okN K (nrS K c) := ⟨T.cl_Site, T.na_Site_name, rfl⟩
abbrev byN (n : Str) (r : NR) : Bool := decide (r.name = n)
abbrev PRs (K : PySem.W.Frag) (rows : List NR) : Dn := PT K (rows.map PNR)
abbrev sp_find_named (K : PySem.W.Frag) : Sp := spF (fun a : List NR × Str => [PRs K a.1, PS a.2]) (fun a => ∀ r ∈ a.1, okN K r) fun a => popt (a.1.find? (byN a.2)) PNR
theorem g_find_named {rows : List NR} {n : Str} (ha : EvG ta G (PRs K rows)) (hb : EvG tb G (PS n)) (h : ∀ r ∈ rows, okN K r) : EvG (tCall (sp_find_named K) [] E (tCons ta (tCons tb tNil))) G (popt (rows.find? (byN n)) PNR) := g_callF (args := fun a : List NR × Str => [PRs K a.1, PS a.2]) (res := fun a : List NR × Str => popt (a.1.find? (byN a.2)) PNR) (rows, n) h (a_cons ha (a_cons hb a_nil))
theorem strdec {x y : Str} : decide (V.str x = V.str y) = decide (x = y) := by
  by_cases h : x = y
  · rw [decide_eq_true h, decide_eq_true (congrArg V.str h)]
  · rw [decide_eq_false h, decide_eq_false (fun z => h (V.str.inj z))]
theorem d_find_named (T : Tx w K mg) : Df P w K mg base CX0 1 "find_named" ["rows", "name"] (sp_find_named K) := by
  refine df_F T.F_find_named T.g_find_named T.B_find_named sc_find_named (fun _ => rfl) (fun a => [some (PRs K a.1), some (PS a.2), none]) (fun _ => rfl) fun cdv A' outer s H E hr => ⟨_, (pss_cons (ps_for PassesOwn.never rfl (pi_tup (pv 0)) (pg_name (i := 2) sc_find_named.nd rfl (by first | exact Or.inl rfl | exact Or.inr rfl)) (pss_one (ps_if (pt_cmpR op_eq (pe_fld (pv 2) rfl) (pv 1) (nomark _)) (pss_one (ps_ret (pv 2))) pss_nil)))
    (pss_one (ps_ret pe_non))), ?_⟩
  intro a pre B0 z D ok kr kn
  obtain ⟨rows, n⟩ := a
  have pre : ∀ r ∈ rows, okN K r := pre
  refine sq (st_forTm rows PNR (fun i (_ : Unit) => (rows.take i).find? (byN n) = none) (fun _ _ => [some (PRs K rows), some (PS n), none]) (fun y _ _ => [some (PRs K rows), some (PS n), some (PNR y)]) (fun _ _ => none) () rfl ok (g_var rfl) (fun y i x => tg_name) (fun C0 C up i y x hy r s' H' ok1 N hN => ?_) (fun x s' H' r ok1 => ?_))
  · have hm := pre y (List.mem_of_getElem? hy)
    refine st_if ok1 (t_test (EvG.is (g_op (g_fld (g_var rfl) hm.c hm.n hm.l) (g_var rfl) (r_eq rfl)) (congrArg (fun b => PB b) strdec))) (fun hb H2 ok2 => ?_) fun hb H2 ok2 => ?_
    · exact st_retE (up ok2) (g_var rfl) (congrArg (fun o => popt o PNR) (find_here r hy hb)) kr
    · exact hN _ _ () (find_next r hy hb) (ok2.forget [2])
  · rw [List.take_length] at r
    exact st_retE ok1 g_c (congrArg (fun o => popt o PNR) r) kr
abbrev putN {A : Type} (nm : A → Str) (rows : List A) (x : A) : List A := rows.filter (fun r => ltS (nm r) (nm x)) ++ ([x] ++ rows.filter fun r => ltS (nm x) (nm r))
abbrev sp_put_named (K : PySem.W.Frag) : Sp := spF (fun a : List NR × NR => [PRs K a.1, PNR a.2]) (fun a => (∀ r ∈ a.1, okN K r) ∧ okN K a.2 ∧ a.1.length ≤ 1000) fun a => PRs K (putN NR.name a.1 a.2)
theorem g_put_named {rows : List NR} {x : NR} (ha : EvG ta G (PRs K rows)) (hb : EvG tb G (PNR x)) (h : (∀ r ∈ rows, okN K r) ∧ okN K x ∧ rows.length ≤ 1000) : EvG (tCall (sp_put_named K) [] E (tCons ta (tCons tb tNil))) G (PRs K (putN NR.name rows x)) := g_callF (args := fun a : List NR × NR => [PRs K a.1, PNR a.2]) (res := fun a : List NR × NR => PRs K (putN NR.name a.1 a.2)) (rows, x) h (a_cons ha (a_cons hb a_nil))
theorem d_put_named (T : Tx w K mg) : Df P w K mg base CX0 1 "put_named" ["rows", "thing"] (sp_put_named K) := by
  refine df_F T.F_put_named T.g_put_named T.B_put_named sc_put_named (fun _ => rfl) (fun a => [some (PRs K a.1), some (PNR a.2), none, none, none]) (fun _ => rfl) fun cdv A' outer s H E hr => ⟨_, (pss_cons (ps_setLc (i := 3) (own := [("row", 2)]) (g := (gName 2)) rfl sc_put_named.nd rfl rfl (sw_true rfl rfl rfl (by decide +kernel)) (pi_tup (pv 0)) (blkOk_by (N := N_put_named) (sc := defScope S_put_named) (by decide +kernel)) (fun _ _ _ _ _ => (pg_name (i := 2) sc_put_named.nd rfl (Or.inl rfl))) (fun _ _ _ _ _ => pts_one (pt_cmpR op_lt_str (pe_fldK (K := K) (pv 2) rfl) (pe_fldK (K := K) (pv 1) rfl) (nomark _))) (fun _ _ _ _ _ => (pv 2)))
    (pss_cons (ps_setLc (i := 4) (own := [("row", 2)]) (g := (gName 2)) rfl sc_put_named.nd rfl rfl (sw_true rfl rfl rfl (by decide +kernel)) (pi_tup (pv 0)) (blkOk_by (N := N_put_named) (sc := defScope S_put_named) (by decide +kernel)) (fun _ _ _ _ _ => (pg_name (i := 2) sc_put_named.nd rfl (Or.inl rfl))) (fun _ _ _ _ _ => pts_one (pt_cmpR op_gt_str (pe_fldK (K := K) (pv 2) rfl) (pe_fldK (K := K) (pv 1) rfl) (nomark _))) (fun _ _ _ _ _ => (pv 2)))
    (pss_one (ps_ret (pe_callTy call_tuple_of rfl T.n_tuple (by decide +kernel) (pa_cons (pe_op op_cat (pe_op op_cat (pv 3) (pe_lst (pa_cons (pv 1) pa_nil))) (pv 4)) pa_nil)))))), ?_⟩
  intro a pre B0 z D ok kr kn
  obtain ⟨rows, x⟩ := a
  obtain ⟨p1, p2, p3⟩ := pre
  have p1 : ∀ r ∈ rows, okN K r := p1
  have p3 : rows.length ≤ 1000 := p3
  refine sq_asg ok (g_lcT (vs := [2]) rows PNR PNR (fun r => ltS r.name x.name) (fun r => [some (PRs K rows), some (PNR x), some (PNR r), none, none]) (g_var rfl) (by omega) (fun _ _ => tc_name) (fun r hr => t_test (g_ltS (g_fld (g_var rfl) (p1 r hr).c (p1 r hr).n (p1 r hr).l) (g_fld (g_var rfl) p2.c p2.n p2.l))) (fun r _ _ => g_var rfl)) fun z1 H1 ok1 => ?_
  refine sq_asg ok1 (g_lcT (vs := [2]) rows PNR PNR (fun r => ltS x.name r.name) (fun r => [some (PRs K rows), some (PNR x), some (PNR r), some (PL ((rows.filter fun r => ltS r.name x.name).map PNR)), none]) (g_var rfl) (by omega) (fun _ _ => tc_name) (fun r hr => t_test (g_gtS (g_fld (g_var rfl) (p1 r hr).c (p1 r hr).n (p1 r hr).l) (g_fld (g_var rfl) p2.c p2.n p2.l))) (fun r _ _ => g_var rfl)) fun z2 H2 ok2 => ?_
  have l1 := List.length_filter_le (fun r => ltS r.name x.name) rows
  have l2 := List.length_filter_le (fun r => ltS x.name r.name) rows
  refine st_retE ok2 (g_cb (a_cons (EvG.imp (g_op (g_op (g_var rfl) (g_lst (a_cons (g_var rfl) a_nil) (Nat.le_of_ble_eq_true rfl)) (r_cat ?_)) (g_var rfl) (r_cat ?_)) fun _ _ => pq_l) a_nil) r_tuple) ?_ kr
  · rw [List.length_map, List.length_singleton]
    omega
  · rw [List.length_append, List.length_map, List.length_singleton, List.length_map]
    omega
  · show PT K ((putN NR.name rows x).map PNR) = _
    rw [List.map_append, List.map_append, List.append_assoc]
    rfl
abbrev sp_drop_named (K : PySem.W.Frag) : Sp := spF (fun a : List NR × Str => [PRs K a.1, PS a.2]) (fun a => (∀ r ∈ a.1, okN K r) ∧ a.1.length ≤ 1000) fun a => PRs K (a.1.filter fun r => !byN a.2 r)
theorem g_drop_named {rows : List NR} {n : Str} (ha : EvG ta G (PRs K rows)) (hb : EvG tb G (PS n)) (h : (∀ r ∈ rows, okN K r) ∧ rows.length ≤ 1000) : EvG (tCall (sp_drop_named K) [] E (tCons ta (tCons tb tNil))) G (PRs K (rows.filter fun r => !byN n r)) := g_callF (args := fun a : List NR × Str => [PRs K a.1, PS a.2]) (res := fun a : List NR × Str => PRs K (a.1.filter fun r => !byN a.2 r)) (rows, n) h (a_cons ha (a_cons hb a_nil))
theorem d_drop_named (T : Tx w K mg) : Df P w K mg base CX0 1 "drop_named" ["rows", "name"] (sp_drop_named K) := by
  refine df_F T.F_drop_named T.g_drop_named T.B_drop_named sc_drop_named (fun _ => rfl) (fun a => [some (PRs K a.1), some (PS a.2), none]) (fun _ => rfl) fun cdv A' outer s H E hr => ⟨_, (pss_one (ps_ret (pe_callTy call_tuple_of rfl T.n_tuple (by decide +kernel) (pa_cons (pe_lc (own := [("row", 2)]) (g := (gName 2)) rfl sc_drop_named.nd (pi_tup (pv 0)) (blkOk_by (N := N_drop_named) (sc := defScope S_drop_named) (by decide +kernel)) (fun _ _ _ _ _ => (pg_name (i := 2) sc_drop_named.nd rfl (Or.inl rfl))) (fun _ _ _ _ _ => pts_one (pt_cmpR op_ne (pe_fldK (K := K) (pv 2) rfl) (pv 1) (nomark _))) (fun _ _ _ _ _ => (pv 2))) pa_nil)))), ?_⟩
  intro a pre B0 z D ok kr kn
  obtain ⟨rows, n⟩ := a
  obtain ⟨p1, p3⟩ := pre
  have p1 : ∀ r ∈ rows, okN K r := p1
  have p3 : rows.length ≤ 1000 := p3
  exact st_ret ok (g_cb (a_cons (EvG.imp (g_lcT (vs := [2]) rows PNR PNR (fun r => !byN n r) (fun r => [some (PRs K rows), some (PS n), some (PNR r)]) (g_var rfl) (by omega) (fun _ _ => tc_name) (fun r hr => t_test (EvG.is (g_op (g_fld (g_var rfl) (p1 r hr).c (p1 r hr).n (p1 r hr).l) (g_var rfl) (r_ne rfl)) (congrArg (fun b => PB (!b)) strdec))) (fun r _ _ => g_var rfl)) fun _ _ => pq_l) a_nil) r_tuple) kr
end
end K9
set_option Elab.async false
set_option linter.all false
set_option maxRecDepth 100000
set_option maxHeartbeats 4000000
/-! K9D6: defs that raise; edits. -/
namespace K9
open PySem PySem.Spec PyProof.Rows L2
/-- an exception of OrreryError's kinds -/
def RaisedE (K : PySem.W.Frag) (v : Value) : Prop := PySem.W.exmOne K v (.ref (He.ga K "OrreryError")) = some true
abbrev KeX (K : PySem.W.Frag) (E : XK) (B0 B : Hp) : Prop := ∀ (C : Addr) (d : Option Addr) (H0' H' : Hp), RaisedE K (.ref C) → Grow B0 B H0' H' → E (.ref C) d H'
/-- a promise that may raise -/
def spX (K : PySem.W.Frag) {A : Type} (args : A → List Dn) (pre : A → Prop) (res : A → Option Dn) : Sp := fun vs H Q E => ∃ H0 a, Same H0 H ∧ pre a ∧ AllH H0 (args a) vs ∧ (∀ d, res a = some d → ∀ v H0' H', Grow H0 H H0' H' → d.holds H0' v → Q v H') ∧ (res a = none → KeX K E H0 H)
structure DfX (P : Program) (w : World) (K : PySem.W.Frag) (mg : Str → Option Value) (base : Heap) (k : Nat) (x : Str) (ps : List Str) (sp : Sp) : Prop where
  ex : ∃ f fd, FnOk P w K mg base (L2.CX P w) k f fd ps sp ∧ mg x = some (.ref f) ∧ PySem.W.keepIn K (.ref f) = true ∧ Binds K fd ps []
/-- what a local name holds -/
def HeldX (P : Program) (w : World) (K : PySem.W.Frag) (mg : Str → Option Value) (base : Heap) (k : Nat) (f : Addr) (sp : Sp) : Prop := ∃ fd ps, FnOk P w K mg base (L2.CX P w) k f fd ps sp ∧ PySem.W.keepIn K (.ref f) = true ∧ Binds K fd ps []
section
variable {P : Program} {w : World} {K : PySem.W.Frag} {mg : Str → Option Value} {base : Heap} {k : Nat} {x : Str} {ps : List Str} {sp : Sp} {f : Addr}
theorem fn_up {fd : FuncData} (F : FnOk P w K mg base CX0 k f fd ps sp) : FnOk P w K mg base (L2.CX P w) k f fd ps sp :=
  ⟨F.len, fun A outer s H args us vs Q E hr e0 hb hv hs => codeAny_mono (F.run A outer s H args us vs Q E hr e0 hb hv hs) fun r s' h => by
    cases r with
    | ok fl => cases fl <;> exact h
    | error e => exact h.elim⟩
theorem Df.held (F : Df P w K mg base CX0 k x ps sp) (g : mg x = some (.ref f)) : HeldX P w K mg base k f sp := by
  obtain ⟨f', fd, F, g', kp, b⟩ := F.ex
  rw [g] at g'
  have e : f = f' := Value.ref.inj (Option.some.inj g')
  subst e
  exact ⟨fd, ps, fn_up F, kp, b⟩
theorem DfX.held (F : DfX P w K mg base k x ps sp) (g : mg x = some (.ref f)) : HeldX P w K mg base k f sp := by
  obtain ⟨f', fd, F, g', kp, b⟩ := F.ex
  rw [g] at g'
  have e : f = f' := Value.ref.inj (Option.some.inj g')
  subst e
  exact ⟨fd, ps, F, kp, b⟩
theorem HeldX.mono {j : Nat} (h : HeldX P w K mg base j f sp) (e : j ≤ k) : HeldX P w K mg base k f sp := by
  obtain ⟨fd, ps, F, h2, h3⟩ := h
  exact ⟨fd, ps, F.mono e, h2, h3⟩
end
section
variable {X : Cx} {k j i : Nat} {x : Str} {ps : List Str} {sp : Sp} {p pos : Pos} {e : Expr} {es : List Expr} {t : TA} {E : XK}
theorem passX (hs : X.stack = X.env :: X.outer) (hf : X.env.frame = some X.env.locals) (hex : X.ex = []) {E₁ : Value → Shared → Prop}
    (hx : X.xe = fun e s' => wpAny (model X.prog X.w) X.A (leaving X.env e) (fun _ s'' => L2.CX X.prog X.w X.outer X.H_0 X.s_0 E e s'') E₁ s') : Passes (L2.CX X.prog X.w) X E := passes_call (takes_of hs hf hex hx) fun _ _ _ _ h => h
theorem pe_dX (F : DfX X.prog X.w X.K X.mg X.base k x ps sp) (hr : Room j X.A) (hx : Passes (L2.CX X.prog X.w) X E) (ha : PA X (e :: es) t) (hg : Gl X x := by rfl) (hj : k ≤ j := by decide) (hdb : (x == ("__debug__" : Str)) = false := by decide)
    (he : starEach (e :: es) X.env = (false, eval e X.env) :: starEach es X.env := by rfl) (hpl : (backTo pos (starEach es X.env)).any (·.1) = false := by rfl) : PE X (.Call (.Name x p) (e :: es) [] pos) (tCall sp [] E t) := by
  obtain ⟨f, fd, G, g, kp, b⟩ := F.ex
  exact pe_call G (hr.mono hj) hg g kp b .nil hx ha hdb he hpl
def tCallH (P : Program) (w : World) (K : PySem.W.Frag) (mg : Str → Option Value) (base : Heap) (k i : Nat) (E : XK) (t : TA) : TE := fun σ H Q => ∃ f sp, σ[i]? = some (some (.ref f)) ∧ HeldX P w K mg base k f sp ∧ t σ H fun vs H1 => sp vs H1 Q E
theorem pe_callH (hr : Room k X.A) (hx : Passes (L2.CX X.prog X.w) X E) (ha : PA X (e :: es) t) (hN : X.N[i]? = some x := by rfl) (hv : Vis X.env.scope x := by first | exact Or.inl rfl | exact Or.inr (Or.inl rfl) | exact Or.inr (Or.inr rfl))
    (hdb : (x == ("__debug__" : Str)) = false := by decide) (hcd : (x == ("__classdict__" : Str)) = false := by decide)
    (he : starEach (e :: es) X.env = (false, eval e X.env) :: starEach es X.env := by rfl) (hpl : (backTo pos (starEach es X.env)).any (·.1) = false := by rfl) : PE X (.Call (.Name x p) (e :: es) [] pos) (tCallH X.prog X.w X.K X.mg X.base k i E t) := by
  refine ⟨fun pins s σ H Q I h => ?_⟩
  obtain ⟨f, sp, hs, ⟨fd, ps, F, hk, hb⟩, ht⟩ := h
  refine wpAny_Call_Name_kw (thn ((pe_var (pos := p) hN hv hdb hcd).run pins s σ H (fun v H1 => v = .ref f ∧ H1 = H) I ⟨.ref f, hs, rfl, rfl⟩) fun u s1 ⟨v, H1, I1, r1, q1⟩ => ?_)
  obtain ⟨rfl, rfl⟩ := q1
  cases r1
  refine PySem.W.callWith_K (h₀ := X.base) I.ok.mod.kin hk (thn (ha.run pos pins s1 σ _ _ I1 ht) fun us s2 ⟨vs, H2, I2, r, q⟩ => ⟨I2.kIn, ?_⟩) he hpl
  exact run_fn (dvs := []) (ds := []) F hr hb .nil hx I2 r (by rw [List.append_nil]; exact q)
end
/-- what raising an exception with an own __init__ comes to -/
def tRsN (C : Addr) (ta : TA) : L2.St → Hp → XK → Prop := fun σ H Q => ta σ H fun vs H1 => (∃ x : Str, vs = [V.str x]) ∧ ∀ d H2, Same H1 H2 → Q (.ref C) d H2
abbrev XNP (P : Program) (w : World) (K : PySem.W.Frag) (mg : Str → Option Value) (base : Heap) (x : Str) : Prop := ∀ {X : Cx} {j : Nat} {p pos : Pos} {e : Expr} {es : List Expr} {t : TA}, X.prog = P → X.w = w → X.K = K → X.mg = mg → X.base = base → X.calm = true → Room j X.A → 4 ≤ j → Gl X x → PA X (e :: es) t →
  starEach (e :: es) X.env = (false, eval e X.env) :: starEach es X.env → (backTo pos (starEach es X.env)).any (·.1) = false → PMk X (.Call (.Name x p) (e :: es) [] pos) (tRsN (He.ga K x) t)
/-! ### rules -/
section
variable {K : PySem.W.Frag} {G : Cn} {W : Option Ow} {te : TE} {t : TA} {E : XK} {B0 B : Hp} {s : L2.St} {H : Hp} {D : Ends} {rest : TS}
def EvX (K : PySem.W.Frag) (te : TE) (G : Cn) (o : Option Dn) (E : XK) : Prop := ∀ (s : L2.St) (H0 H : Hp), Same H0 H → Sl H0 G s → ∀ Q : VK, (∀ d, o = some d → ∀ v H0' H', Grow H0 H H0' H' → d.holds H0' v → Q v H') → (o = none → KeX K E H0 H) → te s H Q
theorem g_callX {A : Type} {args : A → List Dn} {pre : A → Prop} {res : A → Option Dn} (x : A) (hp : pre x) (h : EvA t G (args x)) : EvX K (tCall (spX K args pre res) [] E t) G (res x) E := fun s H0 H sm sl Q k kx =>
  h s H0 H sm sl _ fun vs H1 H' g1 hvs => by
    show spX K args pre res (vs ++ []) H' Q E
    rw [List.append_nil]
    exact ⟨H1, x, g1.b, hp, hvs, fun d e v H2 H'' g2 hv => k d e v H2 H'' (g1.trans g2) hv, fun e C d H2 H'' hr g2 => kx e C d H2 H'' hr (g1.trans g2)⟩
theorem g_callHX {P : Program} {w : World} {mg : Str → Option Value} {base : Heap} {k i : Nat} {f : Addr} {A : Type} {args : A → List Dn} {pre : A → Prop} {res : A → Option Dn} (x : A) (hi : G[i]? = some (some (PV (.ref f)))) (hh : HeldX P w K mg base k f (spX K args pre res)) (hp : pre x) (h : EvA t G (args x)) : EvX K (tCallH P w K mg base k i E t) G (res x) E := fun s H0 H sm sl Q q qx => by
  obtain ⟨v, h1, h2⟩ := sl.at_ i _ hi
  have h2 : v = .ref f := h2
  subst h2
  exact ⟨f, _, h1, hh, h s H0 H sm sl _ fun vs H1 H' g1 hvs => ⟨H1, x, g1.b, hp, hvs, fun d e v H2 H'' g2 hv => q d e v H2 H'' (g1.trans g2) hv, fun e C d H2 H'' hr g2 => qx e C d H2 H'' hr (g1.trans g2)⟩⟩
theorem g_callHF {P : Program} {w : World} {mg : Str → Option Value} {base : Heap} {k i : Nat} {f : Addr} {A : Type} {args : A → List Dn} {pre : A → Prop} {res : A → Dn} (x : A) (hi : G[i]? = some (some (PV (.ref f)))) (hh : HeldX P w K mg base k f (spF args pre res)) (hp : pre x) (h : EvA t G (args x)) : EvX K (tCallH P w K mg base k i E t) G (some (res x)) E := fun s H0 H sm sl Q q qx => by
  obtain ⟨v, h1, h2⟩ := sl.at_ i _ hi
  have h2 : v = .ref f := h2
  subst h2
  exact ⟨f, _, h1, hh, h s H0 H sm sl _ fun vs H1 H' g1 hvs => ⟨H1, x, g1.b, hp, hvs, fun v H2 H'' g2 hv => q _ rfl v H2 H'' (g1.trans g2) hv⟩⟩
theorem OkS.evX {Q : VK} {o : Option Dn} (h : OkS B0 B G W s H) (ev : EvX K te G o E) (k : ∀ d, o = some d → ∀ v H0' H', Grow B0 B H0' H' → Sl H0' G s → OwOk W B H0' H' → d.holds H0' v → Q v H') (kx : o = none → KeX K E B0 B) : te s H Q := by
  obtain ⟨H0, g1, sl, ow⟩ := h.ex
  exact ev s H0 H g1.b sl Q (fun d e v H0' H' g hv => k d e v H0' H' (g1.trans g) (sl.mono g.a) (ow.grow g) hv) fun e C d H0' H' hr g => kx e C d H0' H' hr (g1.trans g)
theorem sq_asgX {i : Nat} {o : Option Dn} (h : OkS B0 B G W s H) (ev : EvX K te G o E) (kx : o = none → KeX K E B0 B) (k : ∀ d, o = some d → ∀ s' H', OkS B0 B (G.set i (some d)) W s' H' → rest D s' H') : tSeq (tAsg te (gName i)) rest D s H :=
  h.evX ev (fun d e v H0' H' g sl ow hv => k d e _ _ ⟨H0', g, sl.set hv, ow⟩) kx
theorem sq_dropX {o : Option Dn} (h : OkS B0 B G W s H) (ev : EvX K te G o E) (kx : o = none → KeX K E B0 B) (k : ∀ d, o = some d → ∀ H', OkS B0 B G W s H' → rest D s H') : tSeq (tDrop te) rest D s H :=
  h.evX ev (fun d e v H0' H' g sl ow hv => k d e _ ⟨H0', g, sl, ow⟩) kx
theorem st_retX {o : Option Dn} (h : OkS B0 B G W s H) (ev : EvX K te G o E) (kx : o = none → KeX K E B0 B) (k : ∀ d, o = some d → ∀ v H0' H', Grow B0 B H0' H' → d.holds H0' v → D.rt v H') : tRet te D s H :=
  h.evX ev (fun d e v H0' H' g sl ow hv => k d e v H0' H' g hv) kx
theorem OkS.ke {C : Addr} (h : OkS B0 B G W s H) (hr : RaisedE K (.ref C)) (kx : KeX K E B0 B) : E (.ref C) none H := by
  obtain ⟨H0, g1, sl, ow⟩ := h.ex
  exact kx C none H0 H hr g1
theorem OkS.keN {C : Addr} {x : Str} (h : OkS B0 B G W s H) (ev : EvA t G [PS x]) (hr : RaisedE K (.ref C)) (kx : KeX K E B0 B) : tRsN C t s H fun cls d H' => E cls d H' := by
  obtain ⟨H0, g1, sl, ow⟩ := h.ex
  refine ev s H0 H g1.b sl _ fun vs H1 H' g hvs => ⟨?_, fun d H2 sm => ?_⟩
  · obtain ⟨v, e, hv⟩ := all1 hvs
    have hv : v = .str x := hv
    exact ⟨x, by rw [e, hv]⟩
  · have g2 := g1.trans g
    exact kx C d H1 H2 hr ⟨g2.a, g2.b.trans sm, g2.c.trans sm, g2.d⟩
end
section
variable {P : Program} {w : World} {K : PySem.W.Frag} {mg : Str → Option Value} {base : Heap}
/-- a def that may raise -/
theorem df_X {A : Type} {args : A → List Dn} {pre : A → Prop} {res : A → Option Dn} {x : Str} {params : Arguments} {body : List Stmt} {scope : Scope} {f : Addr} {fd : FuncData} {N ps : List Str} {k : Nat}
    (F : FunD K x x params body scope [] [] f fd) (g : mg x = some (.ref f)) (b : Binds K fd ps []) (S : FnScope N ps scope) (hl : ∀ a, (args a).length = ps.length) (G0 : A → Cn) (hG : ∀ a, (args a).map some ++ List.replicate (N.length - ps.length) none = G0 a)
    (hb : ∀ (cdv : Value) (A' : Around) (outer : List Env) (s : Shared) (H : Hp) (E : XK), Room k (A'.deeper (envOfC x scope s.heap.objs.size f cdv)) →
      ∃ t, PSs (cxOf (L2.CX P w) P w K mg base N x scope f cdv A' outer s H E) body t ∧
        ∀ (a : A), pre a → ∀ (B0 : Hp) (z : L2.St) (D : Ends), OkS B0 H (G0 a) none z H → (∀ d, res a = some d → ∀ v H0' H', Grow B0 H H0' H' → d.holds H0' v → D.rt v H') → (res a = none → KeX K E B0 H) → t D z H) :
    DfX P w K mg base (k + 1) x ps (spX K args pre res) := by
  refine ⟨f, fd, F.ok S (fun vs H Q E h => ?_) (fun cdv A' outer s H vs Q E hr h => ?_), g, F.kp, b⟩
  · obtain ⟨H0, a, sm, hp, hv, _⟩ := h
    rw [← hv.len]
    exact hl a
  · obtain ⟨t, ht, q⟩ := hb cdv A' outer s H E hr
    obtain ⟨H0, a, sm, hp, hv, kk, kx⟩ := h
    refine ⟨t, ht, q a hp H0 _ _ ?_ kk kx⟩
    have sl := sl_start (N := N) (ps := ps) hv (by rw [← hv.len]; exact hl a)
    rw [hG a] at sl
    exact .start sm sl
end
end K9
set_option Elab.async false
set_option linter.all false
set_option maxRecDepth 100000
set_option maxHeartbeats 4000000
/-! K9Y: the walk of an __init__ with super(), the raise. -/
namespace K9
open PySem PySem.Spec PyProof.Rows L2 NdefX
def spXN (K : PySem.W.Frag) (C : Addr) : Sp := fun vs H Q _ => ∃ (a : Addr) (x : Str), vs = [.ref a, .str x] ∧ H a = some (exo a C none) ∧ ∀ dx, H dx = none → dx ≠ a → Q .non (upd (upd H dx (exd dx [("name", .str x)])) a (exo a C (some dx)))
section
variable {CX : CXT} {P : Program} {w : World} {K : PySem.W.Frag} {mg : Str → Option Value} {base : Heap} {C f cc : Addr} {F : NF} {k : Nat}
theorem xn_cells (X : XnF P K C f cc F) {A : Around} {outer : List Env} {s : Shared} {H : Hp} (e0 : Env0 P w K mg base A outer s H) : CellsAt F.cl ["__class__"] [some (.ref C)] s.heap H := by
  have hc : H cc = none ∧ s.heap.IsCell cc (some (.ref C)) := by
    have h := X.ce
    unfold celB at h
    split at h
    · rename_i a b D c q
      obtain ⟨y1, y2⟩ := e0.bs _ _ (e0.mod.kin _ _ q)
      obtain rfl := of_decide_eq_true h
      exact ⟨y2, _, y1, rfl⟩
    · cases h
  have key : ∀ {y : Str} {c : Addr}, F.cl.lookup y = some c → y = "__class__" ∧ c = cc := fun {y c} e => by
    rw [X.cl] at e
    by_cases hy : y = "__class__"
    · subst hy
      exact ⟨rfl, (Option.some.inj e).symm⟩
    · have z : (y == ("__class__" : Str)) = false := by simpa using hy
      simp [List.lookup, z] at e
  refine ⟨rfl, fun y c e => ?_, fun x y c e1 e2 => (key e1).1.trans (key e2).1.symm, fun i y e => ?_⟩
  · obtain ⟨_, rfl⟩ := key e
    exact ⟨hc.1, _, hc.2⟩
  · cases i with
    | zero =>
      have ey : "__class__" = y := Option.some.inj e
      subst ey
      exact ⟨cc, by rw [X.cl] <;> rfl, fun v hv => by
        have ev : some (V.ref C) = some v := Option.some.inj hv
        cases ev
        exact ⟨_, rfl, hc.2⟩⟩
    | succ i => simp at e
end
section
open PySem.W
variable {prog : Program} {w : World} {A : Around} {E : Value → Shared → Prop} {h : Heap} {g : Array GenState} {d : Drawn} {t : Nat} {os : OsState}
variable {nm q : Str} {C N : Addr} {bs bm : List Value} {hdct : Bool} {sn : List Str} {sub : List Value} {ab : Bool} {col : Option Bool} {dd : Option Addr} {k0 k1 k2 k3 k5 : Option Value}
theorem call_mw {u y t0 : Addr} {us : List Value} {Q : Value → Shared → Prop}
    (lC : h.get? C = some (excClassObj nm q C N bs bm hdct sn sub ab col dd k0 k1 k2 k3 k5 "ValueError.__new__")) (ly : h.get? y = some (excRec (.ref C) t0 none .none .none (.bool false))) (lu : h.get? u = some (kxs_mw "ValueError.__init__" y)) (few : us.length ≤ sizeLine)
    (go : ∀ h' t1, (∀ b o, b ≠ y → h.get? b = some o → h'.get? b = some o) → h'.get? y = some (excRec (.ref C) t1 none .none .none (.bool false)) → Q .none ⟨h', g, d, t, os⟩) :
    wpAny (model prog w) A (call (.ref u) us) Q E ⟨h, g, d, t, os⟩ := by
  have V := PySem.F.excBase_ValueError
  have m1 : (Value.type "method-wrapper" == Value.type "method" || Value.type "method-wrapper" == Value.type "builtin_function_or_method" || Value.type "method-wrapper" == Value.type "method-wrapper") = true := by decide
  refine wpAny_call (codeAny_of_tree (show wpAny _ A.in1 (callAny (.ref u) ⟨us, []⟩) _ _ _ from ?_))
  simp only [callAny]
  refine wpAny_bind (wpAny_load lu ?_)
  simp only [kxs_mw, m1, if_true]
  refine KFB.if_so (by decide) (wpAny_bind (check_bound_init V.toExcCallFacts lC ly rfl (wpAny_bind (wpAny_pure (wpAny_pure ⟨plainId_quiet V.init.plain _, codeAny_builtin V.initEntry ?_⟩)))))
  exact exc_init_tree (cls := .ref C) (t0 := t0) (dv := none) (c2 := .none) (c3 := .none) (b4 := .bool false) ly few fun h' k e' _ => go h' _ k e'
end
theorem boot_super : bootBuiltins "super" = some (.type "super") := by decide +kernel
section
open PySem.W
variable {CX : CXT} {P : Program} {w : World} {K : PySem.W.Frag} {mg : Str → Option Value} {base : Heap} {C f cc : Addr} {F : NF} {k : Nat}
/-- the text of such an __init__ -/
structure XnT (P : Program) (F : NF) (p0 p1 p2 p3 p4 p5 q0 q1 q2 q3 : Pos) (ar : Arg) : Prop where
  S : NScope ["self", "name", "__class__"] ["self", "name"] ["__class__"] F.scope
  sup : F.scope.names.lookup ("super" : Str) = some .globalImplicit
  body : F.body = [.Expr (.Call (.Attribute (.Call (.Name "super" p0) [] [] p1) "__init__" p2) [.Name "name" p3] [] p4) p5, .Assign [.Attribute (.Name "self" q0) "name" q1] (.Name "name" q2) q3]
  par : (F.params.posonlyargs ++ F.params.args).head? = some ar
  ar : ar.arg = "self"
  top : (P.main.scope.names.lookup ("super" : Str)).isSome = false
  hi : ∀ f L : Addr, interactive (envF F f L) = false
  hs1 : ∀ f L : Addr, swapsWith (.Call (.Attribute (.Call (.Name "super" p0) [] [] p1) "__init__" p2) [.Name "name" p3] [] p4) none p5.line (envF F f L) = pure false
  hs2 : ∀ f L : Addr, swapsWith (.Name "name" q2) (some (.Attribute (.Name "self" q0) "name" q1)) q3.line (envF F f L) = pure false
  he : ∀ env : Env, ∃ pl : Sem Bool, eval (.Call (.Attribute (.Call (.Name "super" p0) [] [] p1) "__init__" p2) [.Name "name" p3] [] p4) env = (do
      let ov ← attributeBase (.Call (.Name "super" p0) [] [] p1) "__init__" env (eval (.Call (.Name "super" p0) [] [] p1) env)
      standAt p2.atName
      let (f, first) ← holding [ov] (getMethod ov "__init__" pl)
      callWith p4 f first (backTo p4 (starEach [.Name "name" p3] env)) [])
theorem xn_fn {p0 p1 p2 p3 p4 p5 q0 q1 q2 q3 : Pos} {ar : Arg} (X : XnF P K C f cc F) (T : XnT P F p0 p1 p2 p3 p4 p5 q0 q1 q2 q3 ar) (nS : mg "super" = none) {fd : FuncData} (hfd : ∀ {oc : Value} {od : Option Addr} {fd' : FuncData} {osl : Array (Option Value)}, K.lookup f = some ⟨oc, od, .func fd', osl⟩ → fd = fd') :
    FnOk P w K mg base CX (k + 1) f fd ["self", "name"] (spXN K C) := by
  refine ⟨fun vs H Q E h => ?_, fun A outer s H args us vs Q E hr e0 hb r hsp => ?_⟩
  · obtain ⟨a, x, rfl, _⟩ := h
    rfl
  obtain ⟨a, x, rfl, ea, hq⟩ := hsp
  obtain ⟨oc, od, kV, doc, pm, an, ct, osl, hlk⟩ := X.fn
  obtain rfl := hfd hlk
  obtain ⟨nm, qn, N, bs, bm, sn, sub, ab, col, dd, k0, k1, k2, k3, k5, hCl, hbm⟩ := X.T.cls
  have hl := r.length
  cases r with
  | @cons _ u0 _ ur ra rw' =>
  cases rw' with
  | @cons _ u1 _ ur2 rx rw2 =>
  cases rw2 with
  | nil =>
  have eu0 : u0 = Value.ref a := ra
  subst eu0
  obtain ⟨tx, eu1⟩ : ∃ tx, u1 = Value.str x tx := rx
  subst eu1
  have rr : Vals [V.ref a, V.str x] [Value.ref a, Value.str x tx] := .cons rfl (.cons ⟨tx, rfl⟩ .nil)
  have CA := xn_cells X e0
  have nl : s.heap.NoLimit := e0.mod.nolimit.keeps fun b o z => (e0.bs b o z).1
  have ho := (e0.bs _ _ (e0.mod.kin _ _ hlk)).1
  have XK0 : K.In s.heap := e0.mod.kin.keeps fun b o e => (e0.bs b o e).1
  refine codeAny_call_function hr.depth ho rfl T.S.co T.S.gen rfl (codeRec_of XK0 X.cd) ?_
  refine hb _ _ _ _ (wpAny_newFunctionEnv T.S.nocell (fun ⟨n, _⟩ hy => T.S.par n (List.of_mem_zip hy).1) (fun h₁ hns hsb => ⟨nl.fresh _ hsb, ?_⟩) T.S.kind)
  show codeAny _ _ (.func F.body (envF F f s.heap.objs.size)) _ _
  have kp : ∀ b o, s.heap.get? b = some o → h₁.get? b = some o :=
    fun b o e => hsb.extBut b o (Nat.ne_of_lt (Heap.lt_size e)) (Heap.get?_push_of_some _ e)
  have I : Inv (ncx CX P w K mg base ["self", "name", "__class__"] F f A outer s H E) [] (startF ["self", "name", "__class__"] [V.ref a, V.str x] [some (.ref C)]) H { s with heap := h₁, toks := s.toks + ([("self" : Str), "name"].zip [Value.ref a, Value.str x tx]).length } := inv_startN T.S hr.hd e0 rfl rr CA hns kp
  refine ks_codeAny_funcAt ?_
  have hcl : clsIn K C = some { name := nm, bases := bs, mro := .ref C :: bm, ns := N, qualname := qn, hasDict := true, slotNames := sn, subclasses := sub, abstract := ab, collection := col, hasDel := false } := by unfold clsIn; rw [hCl] <;> rfl
  obtain ⟨t1, hx⟩ := exo_at I.hok ea
  obtain ⟨vsc, file, tf, ccl, cdd, ccs, hco, hvs, hfile⟩ : ∃ (vsc : Array Value) (file : Str) (tf : Tok) (ccl : Value) (cdd : Option Addr) (ccs : Array (Option Value)), K.lookup F.c = some ⟨ccl, cdd, .fields vsc, ccs⟩ ∧ vsc[2]? = some (.str file tf) ∧ ((P.main.file : Str) == file) = true := by
    have h := X.co
    unfold filB at h
    split at h
    · rename_i a1 a2 a3 a4 q1
      split at h
      · rename_i a5 a6 q2
        exact ⟨_, _, _, _, _, _, q1, q2, h⟩
      · cases h
    · cases h
  obtain ⟨cl0, cld, csl, hcell⟩ : ∃ (cl0 : Value) (cld : Option Addr) (csl : Array (Option Value)), K.lookup cc = some ⟨cl0, cld, .cell (some (.ref C)), csl⟩ := by
    have h := X.ce
    unfold celB at h
    split at h
    · rename_i a1 a2 D a4 q1
      obtain rfl := of_decide_eq_true h
      exact ⟨_, _, _, q1⟩
    · cases h
  have hsu : alongIn K "__init__" (((Value.ref C :: bm).dropWhile (· != .ref C)).drop 1) = some (some (.builtin "ValueError.__init__")) := by
    have z := X.su
    unfold ks_superIn at z
    rw [hcl] at z
    exact z
  obtain ⟨mb, hb1, hb2⟩ := I.mod.blt
  have X0 : K.In h₁ := I.kIn
  have hgl : h₁.Ns mainGlobals mg := I.mod.glob.keeps I.bk
  have hbl : h₁.Ns builtinsNs mb := hb1.keeps I.bk
  obtain ⟨hp, g, dr, tk, os⟩ := s
  rw [T.body]
  obtain ⟨pl, hev⟩ := T.he (envF F f hp.objs.size)
  refine ks_wpAt_execs_cons (ks_wpAt_Expr_any (ks_wpAt_MethodCall (pl := pl) ?_ hev) (T.hi _ _) (T.hs1 _ _))
  refine ks_wpAt_super_base (f := f) (ar := ar) (vs := vsc) (file := file) T.sup (T.S.frk _ (by simp)) (by decide) rfl (X0 _ _ hlk) rfl T.par rfl (X0 _ _ hco) rfl hvs hfile T.top ?_
  refine ks_loadName_global T.S.kind T.sup (Calls.loadGlobal_builtin hgl nS hbl ((hb2 "super" (by decide)).trans boot_super) ⟨rfl, ?_⟩)
  refine wpAny_loadName_free T.S.kind (T.S.frk _ (by simp)) (by rw [show (envF F f hp.objs.size).cells = F.cl from rfl, X.cl]; rfl) ⟨_, X0 _ _ hcell, rfl⟩ ?_
  refine wpAny_loadName_local T.S.kind (by rw [T.ar]; exact T.S.par _ (by simp)) hns (v := .ref a) (by rw [T.ar]; rfl) ?_
  refine ks_wpAny_isType_cls (X0 _ _ hCl) rfl ⟨rfl, ?_⟩
  refine ks_wpAny_call_super (X0 _ _ hCl) rfl hx rfl (fun c e => by cases e) (looks_mroIn X0 X.mr) (fun h2 e2 k2 => ?_)
  have X2 : K.In h2 := X0.keeps k2
  have hne : a ≠ C := fun z => by
    have z1 := X0 _ _ hCl
    rw [← z, hx] at z1
    cases z1
  have hin : Looks (model P w) h2 (isInstance (.ref a) (.type "ValueError")) true := (show InstAt h2 a _ C none from ⟨k2 _ _ hx, rfl, rfl, trivial⟩).type.andThen (looks_subIn X2 X.sb)
  refine kxs_getMethod kxs_ValueError e2 (looks_opaque X2 X.tp) (l₀ := .ref C :: bm) ((looks_clsIn X2 hcl).andThen .now) rfl X2 hsu hin hne (by decide) ?_
  have I2 := I.kept (h' := h2) (t' := tk + 2) k2
  have I3 : Inv (ncx CX P w K mg base ["self", "name", "__class__"] F f A outer ⟨hp, g, dr, tk, os⟩ H E) [(h2.objs.size, kxs_mw "ValueError.__init__" a)] (startF ["self", "name", "__class__"] [V.ref a, V.str x] [some (.ref C)]) H ⟨h2.push (kxs_mw "ValueError.__init__" a), g, dr, tk + 2 + 1, os⟩ :=
    (I2.kept (h' := h2.push (kxs_mw "ValueError.__init__" a)) (t' := tk + 2 + 1) (fun b o e => Heap.get?_push_of_some _ e)).pins_of fun p hp => by
      obtain rfl := List.mem_singleton.mp hp
      exact ⟨Heap.get?_push_at rfl rfl, I2.hok.fresh (Nat.le_refl _), Nat.ne_of_gt I2.lt, I2.nofs (Nat.le_refl _), fun v z => by cases z⟩
  have hpa : PA (ncx CX P w K mg base ["self", "name", "__class__"] F f A outer ⟨hp, g, dr, tk, os⟩ H E) [.Name "name" p3] (tCons (tVar 1) tNil) := pa_cons (pe_var (x := "name") rfl (Or.inl (T.S.par _ (by simp)))) pa_nil
  refine kxs_callWith (i := "ValueError.__init__") (x := a) rfl (Calls.evalArgs_plain (thn (hpa.run p4 _ _ _ H (fun vs H' => vs = [.str x] ∧ H' = H) I3 ⟨.str x, rfl, rfl, rfl⟩) fun us1 s4 ⟨vs, H', I4, rv, ev, eH⟩ => ?_))
  subst ev eH
  have pn := (I4.pin (h2.objs.size, kxs_mw "ValueError.__init__" a) (List.mem_append_right _ (by simp))).1
  obtain ⟨t4, hx4⟩ := exo_at I4.hok ea
  obtain ⟨h4, g4, d4, tk4, os4⟩ := s4
  refine ⟨pn, ?_⟩
  have hz : us1.length ≤ sizeLine := by
    rw [← rv.length, sizeLine_eq, List.length_singleton]
    omega
  refine call_mw (I4.kIn _ _ hCl) hx4 pn hz (fun h5 t5 k5 e5 => ?_)
  have eu : upd H' a (exo a C none) = H' := by
    funext b
    by_cases hb : b = a
    · rw [hb, upd_same, ea]
    · rw [upd_ne hb]
  have I5 := (I4.write (t' := tk4) (x := a) (e := a) (o := exo a C none) (by rw [ea]; exact True.intro) (.inl rfl) k5 ⟨_, e5⟩ (exo_ok e5)).pins_of (pins' := []) (fun p hp => by cases hp)
  rw [eu] at I5
  have hps : PSs (ncx CX P w K mg base ["self", "name", "__class__"] F f A outer ⟨hp, g, dr, tk, os⟩ H' E) [.Assign [.Attribute (.Name "self" q0) "name" q1] (.Name "name" q2) q3] (tOst K "name" (tVar 0) (tVar 1)) :=
    pss_one (ps_ost (pe_var (x := "self") rfl (Or.inl (T.S.par _ (by simp)))) (pe_var (x := "name") rfl (Or.inl (T.S.par _ (by simp)))) (T.hs2 _ _))
  refine wpAt_of_wpAny (wpAny_mono (hps.run [] _ _ H' { nx := fun _ H' => Q .non H', rt := Q } I5 ⟨.str x, rfl, .ref a, rfl, a, C, rfl, X.T, X.nm, .inl ⟨ea, fun dx n ne => hq dx n ne⟩⟩) (fun fl s' hs => ?_) fun e s' hs => hs)
  have fin : ∀ {σ' : L2.St} {H9 : Hp} {v : V} {u : Value}, Inv (ncx CX P w K mg base ["self", "name", "__class__"] F f A outer ⟨hp, g, dr, tk, os⟩ H' E) [] σ' H9 s' → L2.RelV v u → Q v H9 → CE outer P w H' ⟨hp, g, dr, tk, os⟩ Q u s' :=
    fun {σ' H9 v u} J rv q => ⟨v, H9, J.os, J.bare, J.base, J.hok, rv, q⟩
  cases fl with
  | ret u =>
    obtain ⟨v, σ', H9, J, rv, q⟩ := hs
    exact fin J rv q
  | next =>
    obtain ⟨σ', H9, J, q⟩ := hs
    exact fin (v := V.non) (u := Value.none) J rfl q
  | brk =>
    obtain ⟨_, _, _, q⟩ := hs
    exact False.elim q
  | cont =>
    obtain ⟨_, _, _, q⟩ := hs
    exact False.elim q
end
end K9
set_option Elab.async false
set_option linter.all false
set_option maxRecDepth 100000
set_option maxHeartbeats 4000000
/-! K9Z: raising NoSuchCraft, NoSuchSite. -/
namespace K9
open PySem PySem.Spec PyProof.Rows L2 NdefX
theorem xn_np {P : Program} {w : World} {K : PySem.W.Frag} {mg : Str → Option Value} {base : Heap} {x : Str} {f cc : Addr} {F : NF} {p0 p1 p2 p3 p4 p5 q0 q1 q2 q3 : Pos} {ar : Arg} (XF : XnF P K (He.ga K x) f cc F) (T : XnT P F p0 p1 p2 p3 p4 p5 q0 q1 q2 q3 ar)
    (hbd : ∀ (kV doc pm : Value) (an : Option Addr) (cdv ct : Value) (us : List Value), us.length = 2 → bindArgs (PySem.W.fnX F.name F.qual F.params F.body F.scope F.cl .none kV doc pm an cdv ct) ⟨us, []⟩ = pure ([("self" : Str), "name"].zip us))
    (nS : mg "super" = none) (g : mg x = some (.ref (He.ga K x))) (hdb : (x == ("__debug__" : Str)) = false) : XNP P w K mg base x := by
  intro X j p pos e es t hP hw hK hmg hbase hcalm hr h4 hgl ha he hpl
  subst hP hw hK hmg hbase
  obtain ⟨oc, od, kV, doc, pm, an, ct, osl, hlk⟩ := XF.fn
  have F1 : FnOk X.prog X.w X.K X.mg X.base CX0 1 f (PySem.W.fnX F.name F.qual F.params F.body F.scope F.cl .none kV doc pm an (.ref F.c) ct) ["self", "name"] (spXN X.K (He.ga X.K x)) := xn_fn XF T nS fun {_ _ _ _} h => by
    rw [hlk] at h
    cases h
    rfl
  have hb : Binds X.K (PySem.W.fnX F.name F.qual F.params F.body F.scope F.cl .none kV doc pm an (.ref F.c) ct) ["self", "name"] [] := Binds.all fun us hl => hbd _ _ _ _ _ _ us hl
  have ha' : PA X (e :: es) (fun σ H Q' => ∃ Q0, t σ H Q0 ∧ ∀ vs H1, Q0 vs H1 → Q' vs H1) := ⟨fun pos pins s σ H Q I h => by
    obtain ⟨Q0, h0, hi⟩ := h
    exact thn (ha.run pos pins s σ H Q0 I h0) fun us s' ⟨vs, H', I', r, q⟩ => ⟨vs, H', I', r, hi _ _ q⟩⟩
  have main := pmk_oex (p := p) (pos := pos) (CX := CX0) (k := 1) XF.T XF.iC XF.tI F1 (hr.mono (by omega)) hb .nil pass0 hgl g ha' hdb he hpl
  intro pins s σ H Q I q
  refine main pins s σ H Q I ⟨_, q, fun vs H1 ⟨⟨y, hy⟩, hq⟩ => ?_⟩
  subst hy
  refine ⟨by simp, fun a hna => ⟨a, y, rfl, upd_same, fun dx hn ne => ⟨rfl, dx, [("name", .str y)], upd_same, ?_, ?_, hq _ _ ?_⟩⟩⟩
  · rw [upd_ne ne, upd_same]
  · rw [upd_ne ne] at hn
    exact hn
  · rw [upd_ne ne] at hn
    intro b o hb
    have h1 : b ≠ dx := fun z => by
      rw [z, hn] at hb
      cases hb
    have h2 : b ≠ a := fun z => by
      rw [z, hna] at hb
      cases hb
    rw [upd_ne h1, del_ne h2, upd_ne h2, upd_ne h1, upd_ne h2]
    exact hb
abbrev nfX (q : Str) (S : Stmt) (cc c : Addr) : NF := ⟨"__init__", q, defArgs S, defBody S, defScope S, [("__class__", cc)], c⟩
theorem sc_NSC : nscB ["self", "name", "__class__"] ["self", "name"] ["__class__"] (defScope S_NSC) = true := by decide +kernel
theorem sc_NSS : nscB ["self", "name", "__class__"] ["self", "name"] ["__class__"] (defScope S_NSS) = true := by decide +kernel
theorem su_NSC : (defScope S_NSC).names.lookup ("super" : Str) = some .globalImplicit := by decide +kernel
theorem su_NSS : (defScope S_NSS).names.lookup ("super" : Str) = some .globalImplicit := by decide +kernel
theorem xt_NSC (cc c : Addr) : ∃ p0 p1 p2 p3 p4 p5 q0 q1 q2 q3 ar, XnT PG (nfX "NoSuchCraft.__init__" S_NSC cc c) p0 p1 p2 p3 p4 p5 q0 q1 q2 q3 ar :=
  ⟨_, _, _, _, _, _, _, _, _, _, _, { S := nscope_by sc_NSC, sup := su_NSC, body := rfl, par := rfl, ar := rfl, top := by decide +kernel, hi := fun _ _ => rfl, hs1 := fun _ _ => rfl, hs2 := fun _ _ => rfl, he := fun _ => ⟨_, rfl⟩ }⟩
theorem xt_NSS (cc c : Addr) : ∃ p0 p1 p2 p3 p4 p5 q0 q1 q2 q3 ar, XnT PG (nfX "NoSuchSite.__init__" S_NSS cc c) p0 p1 p2 p3 p4 p5 q0 q1 q2 q3 ar :=
  ⟨_, _, _, _, _, _, _, _, _, _, _, { S := nscope_by sc_NSS, sup := su_NSS, body := rfl, par := rfl, ar := rfl, top := by decide +kernel, hi := fun _ _ => rfl, hs1 := fun _ _ => rfl, hs2 := fun _ _ => rfl, he := fun _ => ⟨_, rfl⟩ }⟩
section
variable {w : World} {K : PySem.W.Frag} {mg : Str → Option Value} {base : Heap}
theorem np_NSC (T : Tx w K mg) (e : ixW K "NoSuchCraft" = ixV "NoSuchCraft.__init__" S_NSC) (h : xnB PG K "NoSuchCraft" = true) : XNP PG w K mg base "NoSuchCraft" := by
  obtain ⟨cc, c, XF⟩ := xn_of e h
  obtain ⟨_, _, _, _, _, _, _, _, _, _, _, XT⟩ := xt_NSC cc c
  exact xn_np XF XT (fun kV doc pm an cdv ct us hl => match us, hl with | [_, _], _ => rfl) T.n_super T.g_NoSuchCraft (by decide)
theorem np_NSS (T : Tx w K mg) (e : ixW K "NoSuchSite" = ixV "NoSuchSite.__init__" S_NSS) (h : xnB PG K "NoSuchSite" = true) : XNP PG w K mg base "NoSuchSite" := by
  obtain ⟨cc, c, XF⟩ := xn_of e h
  obtain ⟨_, _, _, _, _, _, _, _, _, _, _, XT⟩ := xt_NSS cc c
  exact xn_np XF XT (fun kV doc pm an cdv ct us hl => match us, hl with | [_, _], _ => rfl) T.n_super T.g_NoSuchSite (by decide)
end
end K9
set_option Elab.async false
set_option linter.all false
set_option maxRecDepth 100000
set_option maxHeartbeats 4000000
/-! K9D7: edits: the mirror; each edit keeps it. -/
namespace K9
open PySem PySem.Spec PyProof.Rows L2
/-! ### the mirror -/
def findC (cs : List Cr) (n : Str) : Option Cr := cs.find? fun c => decide (c.name = n)
def findS (cs : List Si) (n : Str) : Option Si := cs.find? fun c => decide (c.name = n)
def withC (ct : Ct) (cs : List Cr) : Ct := { ct with crafts := cs }
def withS (ct : Ct) (ss : List Si) : Ct := { ct with sites := ss }
def chgC (ct : Ct) (c : Cr) (d : Int) (bs : List Bu) (ss : List Sg) : Ct := withC ct (putN Cr.name ct.crafts { c with drift := d, burns := bs, sights := ss })
def addC (ct : Ct) (c : Cr) : Option Ct := if (findC ct.crafts c.name).isNone && decide (20 ≤ (ct.crafts.length : Int)) then none else some (withC ct (putN Cr.name ct.crafts { c with burns := [], sights := [] }))
def dropC (ct : Ct) (n : Str) : Option Ct := (findC ct.crafts n).map fun _ => withC ct (ct.crafts.filter fun c => !decide (c.name = n))
def setD (ct : Ct) (n : Str) (d : Int) : Option Ct := (findC ct.crafts n).map fun c => chgC ct c d c.burns c.sights
def addBu (ct : Ct) (n : Str) (b : Bu) : Option Ct := match findC ct.crafts n with
  | none => none
  | some c => if b.b < c.start then none else
    let os := c.burns.filter fun o => !decide (o.b = b.b)
    if os.any (fun o => decide (o.b < b.e) && decide (b.b < o.e)) then none else if 20 ≤ (os.length : Int) then none else
      some (chgC ct c c.drift (os.filter (fun o => decide (o.b < b.b)) ++ [b] ++ os.filter fun o => decide (o.b > b.b)) c.sights)
def dropB (ct : Ct) (n : Str) (t : Int) : Option Ct := match findC ct.crafts n with
  | none => none
  | some c => let os := c.burns.filter fun o => !decide (o.b = t)
    if (os.length : Int) = c.burns.length then none else some (chgC ct c c.drift os c.sights)
def addG (ct : Ct) (n : Str) (b : Sg) : Option Ct := match findC ct.crafts n with
  | none => none
  | some c => if b.t < c.start then none else
    let os := c.sights.filter fun o => !decide (o.t = b.t)
    if 20 ≤ (os.length : Int) then none else
      some (chgC ct c c.drift c.burns (os.filter (fun o => decide (o.t < b.t)) ++ [b] ++ os.filter fun o => decide (o.t > b.t)))
def dropG (ct : Ct) (n : Str) (t : Int) : Option Ct := match findC ct.crafts n with
  | none => none
  | some c => let os := c.sights.filter fun o => !decide (o.t = t)
    if (os.length : Int) = c.sights.length then none else some (chgC ct c c.drift c.burns os)
def addS (ct : Ct) (x : Si) : Option Ct := if (findS ct.sites x.name).isNone && decide (10 ≤ (ct.sites.length : Int)) then none else some (withS ct (putN Si.name ct.sites x))
def dropS (ct : Ct) (n : Str) : Option Ct := (findS ct.sites n).map fun _ => withS ct (ct.sites.filter fun c => !decide (c.name = n))
/-! ### what keeps well -/
structure okF (y : Cr) : Prop where
  c : okCr y
  b : ∀ x ∈ y.burns, okBu x
  s : ∀ x ∈ y.sights, okSg x
  lb : y.burns.length ≤ 1000
  ls : y.sights.length ≤ 1000
structure okCt (n : Nat) (ct : Ct) : Prop where
  b : okBdy ct.body
  sf : okSF ct
  c : ∀ c ∈ ct.crafts, okF c
  s : ∀ x ∈ ct.sites, okSi x
  lc : ct.crafts.length ≤ n
  ls : ct.sites.length ≤ n
theorem okF.crS {c : Cr} (h : okF c) : crS c := ⟨h.lb, h.ls⟩
theorem gI_v {m : Int} {a : Iv} (h : gI m a) (hm : m < 2 ^ 134) : vI a ∧ bI 134 a := by
  obtain ⟨h1, h2, h3⟩ := h
  refine ⟨h2, ?_, ?_⟩ <;> unfold bd <;> omega
theorem gB_v {m : Int} {b : Box} (h : gB m b) (hm : m < 2 ^ 134) : okB b := ⟨⟨(gI_v h.1 hm).1, (gI_v h.2.1 hm).1, (gI_v h.2.2 hm).1⟩, (gI_v h.1 hm).2, (gI_v h.2.1 hm).2, (gI_v h.2.2 hm).2⟩
theorem okF.okC {c : Cr} (h : okF c) : okC c := ⟨gB_v h.c.p (by decide), gB_v h.c.s (by decide), h.c.d.1, fun x hx => (gB_v (h.b x hx).p (by decide)).1, fun x hx => (gB_v (h.s x hx).p (by decide)).2⟩
theorem okBdy.bd {b : Bd} (h : okBdy b) : okBd b := by
  have h1 := h.m
  have h2 := h.o
  constructor <;> unfold K9.bd <;> omega
theorem findC_mem {cs : List Cr} {n : Str} {c : Cr} (h : findC cs n = some c) : c ∈ cs ∧ c.name = n := ⟨List.mem_of_find?_eq_some h, of_decide_eq_true (List.find?_some (p := fun c : Cr => decide (c.name = n)) h)⟩
theorem popt_map {A B : Type} {o : Option A} {f : A → B} {g : B → Dn} {h : A → Dn} (e : ∀ x, g (f x) = h x) : popt (o.map f) g = popt o h := by
  cases o with
  | none => rfl
  | some x => exact e x
theorem putN_map {A B : Type} (f : A → B) (nm : B → Str) (rows : List A) (x : A) : putN nm (rows.map f) (f x) = (putN (fun r => nm (f r)) rows x).map f := by
  unfold putN
  rw [List.filter_map, List.filter_map, List.map_append, List.map_append]
  rfl
theorem putN_mem {A : Type} {nm : A → Str} {rows : List A} {x y : A} (h : y ∈ putN nm rows x) : y = x ∨ y ∈ rows := by
  unfold putN at h
  rcases List.mem_append.mp h with h | h
  · exact .inr (List.mem_filter.mp h).1
  · rcases List.mem_append.mp h with h | h
    · exact .inl (by simpa using h)
    · exact .inr (List.mem_filter.mp h).1
theorem mem_map_ok {A : Type} {K : PySem.W.Frag} {f : A → NR} (h : ∀ x, okN K (f x)) (xs : List A) : ∀ r ∈ xs.map f, okN K r := fun r hr => by
  obtain ⟨x, _, e⟩ := List.mem_map.mp hr
  rw [← e]
  exact h x
abbrev PCrs (K : PySem.W.Frag) (cs : List Cr) : Dn := PT K (cs.map (PCr K))
abbrev PSis (K : PySem.W.Frag) (cs : List Si) : Dn := PT K (cs.map (PSi K))
section
variable {P : Program} {w : World} {K : PySem.W.Frag} {mg : Str → Option Value} {base : Heap} {G : Cn} {ta tb tc td te : TE} {E : XK}
theorem prs_C (cs : List Cr) : PRs K (cs.map (nrC K)) = PCrs K cs := congrArg (PT K) (List.map_map)
theorem prs_S (cs : List Si) : PRs K (cs.map (nrS K)) = PSis K cs := congrArg (PT K) (List.map_map)
theorem g_findC (T : Tx w K mg) {cs : List Cr} {n : Str} (ha : EvG ta G (PCrs K cs)) (hb : EvG tb G (PS n)) : EvG (tCall (sp_find_named K) [] E (tCons ta (tCons tb tNil))) G (popt (findC cs n) (PCr K)) :=
  (g_find_named (rows := cs.map (nrC K)) (ha.is (prs_C cs).symm) hb (mem_map_ok (okN_C T) cs)).is (by rw [List.find?_map, popt_map (fun _ => rfl)]; rfl)
theorem g_findS (T : Tx w K mg) {cs : List Si} {n : Str} (ha : EvG ta G (PSis K cs)) (hb : EvG tb G (PS n)) : EvG (tCall (sp_find_named K) [] E (tCons ta (tCons tb tNil))) G (popt (findS cs n) (PSi K)) :=
  (g_find_named (rows := cs.map (nrS K)) (ha.is (prs_S cs).symm) hb (mem_map_ok (okN_S T) cs)).is (by rw [List.find?_map, popt_map (fun _ => rfl)]; rfl)
theorem g_putC (T : Tx w K mg) {cs : List Cr} {x : Cr} (ha : EvG ta G (PCrs K cs)) (hb : EvG tb G (PCr K x)) (h : cs.length ≤ 1000) : EvG (tCall (sp_put_named K) [] E (tCons ta (tCons tb tNil))) G (PCrs K (putN Cr.name cs x)) :=
  (g_put_named (rows := cs.map (nrC K)) (x := nrC K x) (ha.is (prs_C cs).symm) hb ⟨mem_map_ok (okN_C T) cs, okN_C T x, by rw [List.length_map]; exact h⟩).is (by rw [putN_map]; exact prs_C _)
theorem g_putS (T : Tx w K mg) {cs : List Si} {x : Si} (ha : EvG ta G (PSis K cs)) (hb : EvG tb G (PSi K x)) (h : cs.length ≤ 1000) : EvG (tCall (sp_put_named K) [] E (tCons ta (tCons tb tNil))) G (PSis K (putN Si.name cs x)) :=
  (g_put_named (rows := cs.map (nrS K)) (x := nrS K x) (ha.is (prs_S cs).symm) hb ⟨mem_map_ok (okN_S T) cs, okN_S T x, by rw [List.length_map]; exact h⟩).is (by rw [putN_map]; exact prs_S _)
theorem g_delC (T : Tx w K mg) {cs : List Cr} {n : Str} (ha : EvG ta G (PCrs K cs)) (hb : EvG tb G (PS n)) (h : cs.length ≤ 1000) : EvG (tCall (sp_drop_named K) [] E (tCons ta (tCons tb tNil))) G (PCrs K (cs.filter fun c => !decide (c.name = n))) :=
  (g_drop_named (rows := cs.map (nrC K)) (ha.is (prs_C cs).symm) hb ⟨mem_map_ok (okN_C T) cs, by rw [List.length_map]; exact h⟩).is (by rw [List.filter_map]; exact prs_C _)
theorem g_delS (T : Tx w K mg) {cs : List Si} {n : Str} (ha : EvG ta G (PSis K cs)) (hb : EvG tb G (PS n)) (h : cs.length ≤ 1000) : EvG (tCall (sp_drop_named K) [] E (tCons ta (tCons tb tNil))) G (PSis K (cs.filter fun c => !decide (c.name = n))) :=
  (g_drop_named (rows := cs.map (nrS K)) (ha.is (prs_S cs).symm) hb ⟨mem_map_ok (okN_S T) cs, by rw [List.length_map]; exact h⟩).is (by rw [List.filter_map]; exact prs_S _)
/-! #### with_crafts, with_sites, changed_craft, set_stride, set_fineness -/
abbrev sp_with_crafts (K : PySem.W.Frag) : Sp := spF (fun a : Ct × List Cr => [PCt K a.1, PCrs K a.2]) (fun a => okSF a.1) fun a => PCt K (withC a.1 a.2)
theorem g_with_crafts {ct : Ct} {cs : List Cr} (ha : EvG ta G (PCt K ct)) (hb : EvG tb G (PCrs K cs)) (h : okSF ct) : EvG (tCall (sp_with_crafts K) [] E (tCons ta (tCons tb tNil))) G (PCt K (withC ct cs)) := g_callF (args := fun a : Ct × List Cr => [PCt K a.1, PCrs K a.2]) (res := fun a : Ct × List Cr => PCt K (withC a.1 a.2)) (ct, cs) h (a_cons ha (a_cons hb a_nil))
theorem d_with_crafts (T : Tx w K mg) : Df P w K mg base CX0 4 "with_crafts" ["contents", "crafts"] (sp_with_crafts K) := by
  have G_Contents5 := d_Contents5 (P := P) (base := base) T
  refine df_F T.F_with_crafts T.g_with_crafts T.B_with_crafts sc_with_crafts (fun _ => rfl) (fun a => [some (PCt K a.1), some (PCrs K a.2)]) (fun _ => rfl) fun cdv A' outer s H E hr => ⟨_, (pss_one (ps_ret (pe_k G_Contents5 hr (pa_cons (pe_fld (pv 0) rfl) (pa_cons (pe_fld (pv 0) rfl) (pa_cons (pe_fld (pv 0) rfl) (pa_cons (pv 1) (pa_cons (pe_fld (pv 0) rfl) pa_nil)))))))), ?_⟩
  intro a pre B0 z D ok kr kn
  exact st_ret ok (g_Contents5 (c := withC a.1 a.2) (g_fld (g_var rfl) T.cl_Contents T.na_Contents_body rfl) (g_fld (g_var rfl) T.cl_Contents T.na_Contents_stride rfl) (g_fld (g_var rfl) T.cl_Contents T.na_Contents_fineness rfl) (EvG.imp (g_var rfl) fun _ _ => pq_t) (EvG.imp (g_fld (g_var rfl) T.cl_Contents T.na_Contents_sites rfl) fun _ _ => pq_t) pre) kr
abbrev sp_with_sites (K : PySem.W.Frag) : Sp := spF (fun a : Ct × List Si => [PCt K a.1, PSis K a.2]) (fun a => okSF a.1) fun a => PCt K (withS a.1 a.2)
theorem g_with_sites {ct : Ct} {cs : List Si} (ha : EvG ta G (PCt K ct)) (hb : EvG tb G (PSis K cs)) (h : okSF ct) : EvG (tCall (sp_with_sites K) [] E (tCons ta (tCons tb tNil))) G (PCt K (withS ct cs)) := g_callF (args := fun a : Ct × List Si => [PCt K a.1, PSis K a.2]) (res := fun a : Ct × List Si => PCt K (withS a.1 a.2)) (ct, cs) h (a_cons ha (a_cons hb a_nil))
theorem d_with_sites (T : Tx w K mg) : Df P w K mg base CX0 4 "with_sites" ["contents", "sites"] (sp_with_sites K) := by
  have G_Contents5 := d_Contents5 (P := P) (base := base) T
  refine df_F T.F_with_sites T.g_with_sites T.B_with_sites sc_with_sites (fun _ => rfl) (fun a => [some (PCt K a.1), some (PSis K a.2)]) (fun _ => rfl) fun cdv A' outer s H E hr => ⟨_, (pss_one (ps_ret (pe_k G_Contents5 hr (pa_cons (pe_fld (pv 0) rfl) (pa_cons (pe_fld (pv 0) rfl) (pa_cons (pe_fld (pv 0) rfl) (pa_cons (pe_fld (pv 0) rfl) (pa_cons (pv 1) pa_nil)))))))), ?_⟩
  intro a pre B0 z D ok kr kn
  exact st_ret ok (g_Contents5 (c := withS a.1 a.2) (g_fld (g_var rfl) T.cl_Contents T.na_Contents_body rfl) (g_fld (g_var rfl) T.cl_Contents T.na_Contents_stride rfl) (g_fld (g_var rfl) T.cl_Contents T.na_Contents_fineness rfl) (EvG.imp (g_fld (g_var rfl) T.cl_Contents T.na_Contents_crafts rfl) fun _ _ => pq_t) (EvG.imp (g_var rfl) fun _ _ => pq_t) pre) kr
structure ChA where
  ct : Ct
  c : Cr
  d : Int
  bs : List Bu
  ss : List Sg
abbrev chArgs (K : PySem.W.Frag) (a : ChA) : List Dn := [PCt K a.ct, PCr K a.c, PI a.d, PQ K (a.bs.map (PBu K)), PQ K (a.ss.map (PSg K))]
abbrev chPre (a : ChA) : Prop := okSF a.ct ∧ okCr a.c ∧ (0 ≤ a.d ∧ a.d ≤ MOSTD) ∧ a.ct.crafts.length ≤ 1000
abbrev sp_changed_craft (K : PySem.W.Frag) : Sp := spF (chArgs K) chPre fun a => PCt K (chgC a.ct a.c a.d a.bs a.ss)
theorem g_changed_craft {a : ChA} (ha : EvG ta G (PCt K a.ct)) (hb : EvG tb G (PCr K a.c)) (hc : EvG tc G (PI a.d)) (hd : EvG td G (PQ K (a.bs.map (PBu K)))) (he : EvG te G (PQ K (a.ss.map (PSg K)))) (h : chPre a) :
    EvG (tCall (sp_changed_craft K) [] E (tCons ta (tCons tb (tCons tc (tCons td (tCons te tNil)))))) G (PCt K (chgC a.ct a.c a.d a.bs a.ss)) := g_callF (args := chArgs K) (res := fun a => PCt K (chgC a.ct a.c a.d a.bs a.ss)) a h (a_cons ha (a_cons hb (a_cons hc (a_cons hd (a_cons he a_nil)))))
theorem okCr.chg {c : Cr} (h : okCr c) {d : Int} {bs : List Bu} {ss : List Sg} (hd : 0 ≤ d ∧ d ≤ MOSTD) : okCr { c with drift := d, burns := bs, sights := ss } := ⟨h.n, h.t, h.p, h.s, hd⟩
theorem d_changed_craft (T : Tx w K mg) : Df P w K mg base CX0 5 "changed_craft" ["contents", "craft", "drift", "burns", "sightings"] (sp_changed_craft K) := by
  have G_Craft7 := d_Craft7 (P := P) (base := base) T
  have G_with_crafts := d_with_crafts (P := P) (base := base) T
  have G_put_named := d_put_named (P := P) (base := base) T
  refine df_F T.F_changed_craft T.g_changed_craft T.B_changed_craft sc_changed_craft (fun _ => rfl) (fun a => [some (PCt K a.ct), some (PCr K a.c), some (PI a.d), some (PQ K (a.bs.map (PBu K))), some (PQ K (a.ss.map (PSg K))), none]) (fun _ => rfl) fun cdv A' outer s H E hr => ⟨_, (pss_cons (ps_set (i := 5) sc_changed_craft.nd rfl (by first | exact Or.inl rfl | exact Or.inr rfl) (pe_k G_Craft7 hr (pa_cons (pe_fld (pv 1) rfl) (pa_cons (pe_fld (pv 1) rfl) (pa_cons (pe_fld (pv 1) rfl) (pa_cons (pe_fld (pv 1) rfl) (pa_cons (pv 2) (pa_cons (pv 3) (pa_cons (pv 4) pa_nil)))))))))
    (pss_one (ps_ret (pe_d G_with_crafts hr (pa_cons (pv 0) (pa_cons (pe_d G_put_named hr (pa_cons (pe_fld (pv 0) rfl) (pa_cons (pv 5) pa_nil))) pa_nil)))))), ?_⟩
  intro a pre B0 z D ok kr kn
  obtain ⟨p1, p2, p3, p4⟩ := pre
  refine sq_asg ok (g_Craft7 (c := { a.c with drift := a.d, burns := a.bs, sights := a.ss }) (g_fld (g_var rfl) T.cl_Craft T.na_Craft_name rfl) (g_fld (g_var rfl) T.cl_Craft T.na_Craft_start rfl) (g_fld (g_var rfl) T.cl_Craft T.na_Craft_place rfl) (g_fld (g_var rfl) T.cl_Craft T.na_Craft_speed rfl) (g_var rfl) (g_var rfl) (g_var rfl) (p2.chg p3)) fun z1 H1 ok1 => ?_
  exact st_ret ok1 (g_with_crafts (g_var rfl) (g_putC T (g_fld (g_var rfl) T.cl_Contents T.na_Contents_crafts rfl) (g_var rfl) p4) p1) kr
abbrev sp_set_stride (K : PySem.W.Frag) : Sp := spF (fun a : Ct × Int => [PCt K a.1, PI a.2]) (fun a => okSF { a.1 with stride := a.2 }) fun a => PCt K { a.1 with stride := a.2 }
theorem d_set_stride (T : Tx w K mg) : Df P w K mg base CX0 4 "set_stride" ["contents", "stride"] (sp_set_stride K) := by
  have G_Contents5 := d_Contents5 (P := P) (base := base) T
  refine df_F T.F_set_stride T.g_set_stride T.B_set_stride sc_set_stride (fun _ => rfl) (fun a => [some (PCt K a.1), some (PI a.2)]) (fun _ => rfl) fun cdv A' outer s H E hr => ⟨_, (pss_one (ps_ret (pe_k G_Contents5 hr (pa_cons (pe_fld (pv 0) rfl) (pa_cons (pv 1) (pa_cons (pe_fld (pv 0) rfl) (pa_cons (pe_fld (pv 0) rfl) (pa_cons (pe_fld (pv 0) rfl) pa_nil)))))))), ?_⟩
  intro a pre B0 z D ok kr kn
  exact st_ret ok (g_Contents5 (c := { a.1 with stride := a.2 }) (g_fld (g_var rfl) T.cl_Contents T.na_Contents_body rfl) (g_var rfl) (g_fld (g_var rfl) T.cl_Contents T.na_Contents_fineness rfl) (EvG.imp (g_fld (g_var rfl) T.cl_Contents T.na_Contents_crafts rfl) fun _ _ => pq_t) (EvG.imp (g_fld (g_var rfl) T.cl_Contents T.na_Contents_sites rfl) fun _ _ => pq_t) pre) kr
abbrev sp_set_fineness (K : PySem.W.Frag) : Sp := spF (fun a : Ct × Int => [PCt K a.1, PI a.2]) (fun a => okSF { a.1 with fine := a.2 }) fun a => PCt K { a.1 with fine := a.2 }
theorem d_set_fineness (T : Tx w K mg) : Df P w K mg base CX0 4 "set_fineness" ["contents", "fineness"] (sp_set_fineness K) := by
  have G_Contents5 := d_Contents5 (P := P) (base := base) T
  refine df_F T.F_set_fineness T.g_set_fineness T.B_set_fineness sc_set_fineness (fun _ => rfl) (fun a => [some (PCt K a.1), some (PI a.2)]) (fun _ => rfl) fun cdv A' outer s H E hr => ⟨_, (pss_one (ps_ret (pe_k G_Contents5 hr (pa_cons (pe_fld (pv 0) rfl) (pa_cons (pe_fld (pv 0) rfl) (pa_cons (pv 1) (pa_cons (pe_fld (pv 0) rfl) (pa_cons (pe_fld (pv 0) rfl) pa_nil)))))))), ?_⟩
  intro a pre B0 z D ok kr kn
  exact st_ret ok (g_Contents5 (c := { a.1 with fine := a.2 }) (g_fld (g_var rfl) T.cl_Contents T.na_Contents_body rfl) (g_fld (g_var rfl) T.cl_Contents T.na_Contents_stride rfl) (g_var rfl) (EvG.imp (g_fld (g_var rfl) T.cl_Contents T.na_Contents_crafts rfl) fun _ _ => pq_t) (EvG.imp (g_fld (g_var rfl) T.cl_Contents T.na_Contents_sites rfl) fun _ _ => pq_t) pre) kr
/-! #### craft_of, site_of -/
abbrev sp_craft_of (K : PySem.W.Frag) : Sp := spX K (fun a : Ct × Str => [PCt K a.1, PS a.2]) (fun _ => True) fun a => (findC a.1.crafts a.2).map (PCr K)
theorem g_craft_of {ct : Ct} {n : Str} (ha : EvG ta G (PCt K ct)) (hb : EvG tb G (PS n)) : EvX K (tCall (sp_craft_of K) [] E (tCons ta (tCons tb tNil))) G ((findC ct.crafts n).map (PCr K)) E := g_callX (args := fun a : Ct × Str => [PCt K a.1, PS a.2]) (res := fun a : Ct × Str => (findC a.1.crafts a.2).map (PCr K)) (ct, n) trivial (a_cons ha (a_cons hb a_nil))
theorem d_craft_of (T : Tx w K mg) (NX_NoSuchCraft : XNP P w K mg base "NoSuchCraft") : DfX P w K mg base 5 "craft_of" ["contents", "name"] (sp_craft_of K) := by
  have G_find_named := d_find_named (P := P) (base := base) T
  refine df_X T.F_craft_of T.g_craft_of T.B_craft_of sc_craft_of (fun _ => rfl) (fun a => [some (PCt K a.1), some (PS a.2), none]) (fun _ => rfl) fun cdv A' outer s H E hr => ⟨_, (pss_cons (ps_set (i := 2) sc_craft_of.nd rfl (by first | exact Or.inl rfl | exact Or.inr rfl) (pe_d G_find_named hr (pa_cons (pe_fld (pv 0) rfl) (pa_cons (pv 1) pa_nil))))
    (pss_cons (ps_if (pt_cmpR op_isN (pv 2) pe_non (nomark _)) (pss_one (ps_raise rfl (takes_of rfl rfl rfl rfl) (NX_NoSuchCraft rfl rfl rfl rfl rfl rfl hr (by decide) rfl (pa_cons (pv 1) pa_nil) rfl rfl))) pss_nil)
    (pss_one (ps_ret (pv 2))))), ?_⟩
  intro a pre B0 z D ok kr ke
  obtain ⟨ct, n⟩ := a
  refine sq_asg ok (g_findC T (g_fld (g_var rfl) T.cl_Contents T.na_Contents_crafts rfl) (g_var rfl)) fun z1 H1 ok1 => ?_
  revert kr ke ok1
  show (∀ d, (findC ct.crafts n).map (PCr K) = some d → _) → ((findC ct.crafts n).map (PCr K) = none → _) → OkS B0 H [some (PCt K ct), some (PS n), some (popt (findC ct.crafts n) (PCr K))] none z1 H1 → _
  cases findC ct.crafts n with
  | none =>
    intro kr ke ok1
    refine sq_if0 ok1 (t_test (g_isN (k := true) (g_var rfl) fun _ _ h => popt_nonO h)) (fun hb H2 ok2 => ?_) fun hb => nomatch hb
    exact ok2.keN (a_cons (g_var rfl) a_nil) T.m_NoSuchCraft (ke rfl)
  | some c =>
    intro kr ke ok1
    refine sq_if0 ok1 (t_test (g_isN (k := false) (g_var rfl) fun _ _ h => popt_nonO h)) (fun hb => nomatch hb) fun hb H2 ok2 => ?_
    exact st_ret ok2 (d := PCr K c) (g_var rfl) (kr _ rfl)
abbrev sp_site_of (K : PySem.W.Frag) : Sp := spX K (fun a : Ct × Str => [PCt K a.1, PS a.2]) (fun _ => True) fun a => (findS a.1.sites a.2).map (PSi K)
theorem g_site_of {ct : Ct} {n : Str} (ha : EvG ta G (PCt K ct)) (hb : EvG tb G (PS n)) : EvX K (tCall (sp_site_of K) [] E (tCons ta (tCons tb tNil))) G ((findS ct.sites n).map (PSi K)) E := g_callX (args := fun a : Ct × Str => [PCt K a.1, PS a.2]) (res := fun a : Ct × Str => (findS a.1.sites a.2).map (PSi K)) (ct, n) trivial (a_cons ha (a_cons hb a_nil))
theorem d_site_of (T : Tx w K mg) (NX_NoSuchSite : XNP P w K mg base "NoSuchSite") : DfX P w K mg base 5 "site_of" ["contents", "name"] (sp_site_of K) := by
  have G_find_named := d_find_named (P := P) (base := base) T
  refine df_X T.F_site_of T.g_site_of T.B_site_of sc_site_of (fun _ => rfl) (fun a => [some (PCt K a.1), some (PS a.2), none]) (fun _ => rfl) fun cdv A' outer s H E hr => ⟨_, (pss_cons (ps_set (i := 2) sc_site_of.nd rfl (by first | exact Or.inl rfl | exact Or.inr rfl) (pe_d G_find_named hr (pa_cons (pe_fld (pv 0) rfl) (pa_cons (pv 1) pa_nil))))
    (pss_cons (ps_if (pt_cmpR op_isN (pv 2) pe_non (nomark _)) (pss_one (ps_raise rfl (takes_of rfl rfl rfl rfl) (NX_NoSuchSite rfl rfl rfl rfl rfl rfl hr (by decide) rfl (pa_cons (pv 1) pa_nil) rfl rfl))) pss_nil)
    (pss_one (ps_ret (pv 2))))), ?_⟩
  intro a pre B0 z D ok kr ke
  obtain ⟨ct, n⟩ := a
  refine sq_asg ok (g_findS T (g_fld (g_var rfl) T.cl_Contents T.na_Contents_sites rfl) (g_var rfl)) fun z1 H1 ok1 => ?_
  revert kr ke ok1
  show (∀ d, (findS ct.sites n).map (PSi K) = some d → _) → ((findS ct.sites n).map (PSi K) = none → _) → OkS B0 H [some (PCt K ct), some (PS n), some (popt (findS ct.sites n) (PSi K))] none z1 H1 → _
  cases findS ct.sites n with
  | none =>
    intro kr ke ok1
    refine sq_if0 ok1 (t_test (g_isN (k := true) (g_var rfl) fun _ _ h => popt_nonO h)) (fun hb H2 ok2 => ?_) fun hb => nomatch hb
    exact ok2.keN (a_cons (g_var rfl) a_nil) T.m_NoSuchSite (ke rfl)
  | some c =>
    intro kr ke ok1
    refine sq_if0 ok1 (t_test (g_isN (k := false) (g_var rfl) fun _ _ h => popt_nonO h)) (fun hb => nomatch hb) fun hb H2 ok2 => ?_
    exact st_ret ok2 (d := PSi K c) (g_var rfl) (kr _ rfl)
/-! #### add_craft, drop_craft, set_drift -/
abbrev resC (K : PySem.W.Frag) (o : Option Ct) : Option Dn := o.map (PCt K)
abbrev sp_add_craft (K : PySem.W.Frag) : Sp := spX K (fun a : Ct × Cr => [PCt K a.1, PCr K a.2]) (fun a => okCt 100 a.1 ∧ okCr a.2) fun a => resC K (addC a.1 a.2)
theorem okCr.bare {c : Cr} (h : okCr c) : okCr { c with burns := [], sights := [] } := ⟨h.n, h.t, h.p, h.s, h.d⟩
theorem d_add_craft (T : Tx w K mg) : DfX P w K mg base 5 "add_craft" ["contents", "craft"] (sp_add_craft K) := by
  have G_find_named := d_find_named (P := P) (base := base) T
  have G_put_named := d_put_named (P := P) (base := base) T
  have G_with_crafts := d_with_crafts (P := P) (base := base) T
  have G_Craft5 := d_Craft5 (P := P) (base := base) T
  obtain ⟨_, m_MOST_CRAFT⟩ := T.i_MOST_CRAFT
  refine df_X T.F_add_craft T.g_add_craft T.B_add_craft sc_add_craft (fun _ => rfl) (fun a => [some (PCt K a.1), some (PCr K a.2), none]) (fun _ => rfl) fun cdv A' outer s H E hr => ⟨_, (pss_cons (ps_if (PW.pt (pw_and (pt_cmpR op_isN (pe_d G_find_named hr (pa_cons (pe_fld (pv 0) rfl) (pa_cons (pe_fld (pv 1) rfl) pa_nil))) pe_non (nomark _)) (pw_and1 (pt_cmpR op_ge (pe_callB call_len_seq rfl T.n_len PySem.boot_len (pa_cons (pe_fld (pv 0) rfl) pa_nil)) (pe_glob (v := .int _) rfl m_MOST_CRAFT ⟨_, rfl⟩) (nomark _))))) (pss_one (ps_raise rfl (takes_of rfl rfl rfl rfl) (pmk_own PySem.F.excBase_ValueError T.x_TooMany T.g_TooMany T.kx_TooMany (raises_own T.bx_TooMany T.tx_TooMany) rfl))) pss_nil)
    (pss_cons (ps_set (i := 2) sc_add_craft.nd rfl (by first | exact Or.inl rfl | exact Or.inr rfl) (pe_k G_Craft5 hr (pa_cons (pe_fld (pv 1) rfl) (pa_cons (pe_fld (pv 1) rfl) (pa_cons (pe_fld (pv 1) rfl) (pa_cons (pe_fld (pv 1) rfl) (pa_cons (pe_fld (pv 1) rfl) pa_nil)))))))
    (pss_one (ps_ret (pe_d G_with_crafts hr (pa_cons (pv 0) (pa_cons (pe_d G_put_named hr (pa_cons (pe_fld (pv 0) rfl) (pa_cons (pv 2) pa_nil))) pa_nil))))))), ?_⟩
  intro a pre B0 z D ok kr ke
  obtain ⟨ct, c⟩ := a
  obtain ⟨p1, p2⟩ := pre
  have hl : (ct.crafts.map (PCr K)).length = ct.crafts.length := List.length_map ..
  refine sq_if0 ok (t_and (t_test (g_isN (g_findC T (g_fld (g_var rfl) T.cl_Contents T.na_Contents_crafts rfl) (g_fld (g_var rfl) T.cl_Craft T.na_Craft_name rfl)) fun _ _ h => popt_nonO h)) (fun _ => t_test (g_I0 (g_cb (a_cons (g_fld (g_var rfl) T.cl_Contents T.na_Contents_crafts rfl) a_nil) r_lenT) g_c))) (fun hb H1 ok1 => ?_) fun hb H1 ok1 => ?_
  · refine ok1.ke T.m_TooMany (ke (congrArg (resC K) (show addC ct c = none from if_pos ?_)))
    rw [hl] at hb
    exact hb
  rw [hl] at hb
  have e : addC ct c = some (withC ct (putN Cr.name ct.crafts { c with burns := [], sights := [] })) := if_neg (by rw [show ((findC ct.crafts c.name).isNone && decide (20 ≤ (ct.crafts.length : Int))) = false from hb]; exact Bool.false_ne_true)
  refine sq_asg ok1 (g_Craft5 T (c := { c with burns := [], sights := [] }) (g_fld (g_var rfl) T.cl_Craft T.na_Craft_name rfl) (g_fld (g_var rfl) T.cl_Craft T.na_Craft_start rfl) (g_fld (g_var rfl) T.cl_Craft T.na_Craft_place rfl) (g_fld (g_var rfl) T.cl_Craft T.na_Craft_speed rfl) (g_fld (g_var rfl) T.cl_Craft T.na_Craft_drift rfl) p2.bare rfl rfl) fun z2 H2 ok2 => ?_
  exact st_ret ok2 (g_with_crafts (g_var rfl) (g_putC T (g_fld (g_var rfl) T.cl_Contents T.na_Contents_crafts rfl) (g_var rfl) (by have := p1.lc; omega)) p1.sf) (kr _ (congrArg (resC K) e))
abbrev sp_drop_craft (K : PySem.W.Frag) : Sp := spX K (fun a : Ct × Str => [PCt K a.1, PS a.2]) (fun a => okCt 100 a.1) fun a => resC K (dropC a.1 a.2)
theorem d_drop_craft (T : Tx w K mg) (NX_NoSuchCraft : XNP P w K mg base "NoSuchCraft") : DfX P w K mg base 6 "drop_craft" ["contents", "name"] (sp_drop_craft K) := by
  have G_craft_of := d_craft_of T NX_NoSuchCraft
  have G_drop_named := d_drop_named (P := P) (base := base) T
  have G_with_crafts := d_with_crafts (P := P) (base := base) T
  refine df_X T.F_drop_craft T.g_drop_craft T.B_drop_craft sc_drop_craft (fun _ => rfl) (fun a => [some (PCt K a.1), some (PS a.2)]) (fun _ => rfl) fun cdv A' outer s H E hr => ⟨_, (pss_cons (ps_expr (pe_dX G_craft_of hr (passX rfl rfl rfl rfl) (pa_cons (pv 0) (pa_cons (pv 1) pa_nil))))
    (pss_one (ps_ret (pe_d G_with_crafts hr (pa_cons (pv 0) (pa_cons (pe_d G_drop_named hr (pa_cons (pe_fld (pv 0) rfl) (pa_cons (pv 1) pa_nil))) pa_nil)))))), ?_⟩
  intro a pre B0 z D ok kr ke
  obtain ⟨ct, n⟩ := a
  have pre : okCt 100 ct := pre
  have hlc : ct.crafts.length ≤ 1000 := Nat.le_trans pre.lc (by decide)
  have e : dropC ct n = (findC ct.crafts n).map fun _ => withC ct (ct.crafts.filter fun c => !decide (c.name = n)) := rfl
  refine sq_dropX ok (g_craft_of (g_var rfl) (g_var rfl)) (fun h => ke ?_) fun d h H1 ok1 => ?_
  · show resC K (dropC ct n) = none
    rw [e, Option.map_eq_none_iff.mp h]
    rfl
  obtain ⟨c, hc, _⟩ := Option.map_eq_some_iff.mp h
  exact st_ret ok1 (g_with_crafts (g_var rfl) (g_delC T (g_fld (g_var rfl) T.cl_Contents T.na_Contents_crafts rfl) (g_var rfl) hlc) pre.sf) (kr _ (by show resC K (dropC ct n) = _; rw [e, hc]; rfl))
abbrev okDr (d : Int) : Prop := 0 ≤ d ∧ d ≤ MOSTD
abbrev sp_set_drift (K : PySem.W.Frag) : Sp := spX K (fun a : Ct × Str × Int => [PCt K a.1, PS a.2.1, PI a.2.2]) (fun a => okCt 100 a.1 ∧ okDr a.2.2) fun a => resC K (setD a.1 a.2.1 a.2.2)
theorem d_set_drift (T : Tx w K mg) (NX_NoSuchCraft : XNP P w K mg base "NoSuchCraft") : DfX P w K mg base 6 "set_drift" ["contents", "name", "drift"] (sp_set_drift K) := by
  have G_craft_of := d_craft_of T NX_NoSuchCraft
  have G_changed_craft := d_changed_craft (P := P) (base := base) T
  refine df_X T.F_set_drift T.g_set_drift T.B_set_drift sc_set_drift (fun _ => rfl) (fun a => [some (PCt K a.1), some (PS a.2.1), some (PI a.2.2), none]) (fun _ => rfl) fun cdv A' outer s H E hr => ⟨_, (pss_cons (ps_set (i := 3) sc_set_drift.nd rfl (by first | exact Or.inl rfl | exact Or.inr rfl) (pe_dX G_craft_of hr (passX rfl rfl rfl rfl) (pa_cons (pv 0) (pa_cons (pv 1) pa_nil))))
    (pss_one (ps_ret (pe_d G_changed_craft hr (pa_cons (pv 0) (pa_cons (pv 3) (pa_cons (pv 2) (pa_cons (pe_fld (pv 3) rfl) (pa_cons (pe_fld (pv 3) rfl) pa_nil))))))))), ?_⟩
  intro a pre B0 z D ok kr ke
  obtain ⟨ct, n, dr⟩ := a
  obtain ⟨p1, p2⟩ := pre
  have p1 : okCt 100 ct := p1
  have hlc : ct.crafts.length ≤ 1000 := Nat.le_trans p1.lc (by decide)
  have e : setD ct n dr = (findC ct.crafts n).map fun c => chgC ct c dr c.burns c.sights := rfl
  refine sq_asgX ok (g_craft_of (g_var rfl) (g_var rfl)) (fun h => ke ?_) fun d h z1 H1 ok1 => ?_
  · show resC K (setD ct n dr) = none
    rw [e, Option.map_eq_none_iff.mp h]
    rfl
  obtain ⟨c, hc, rfl⟩ := Option.map_eq_some_iff.mp h
  have hm := p1.c c (findC_mem hc).1
  exact st_ret ok1 (g_changed_craft (a := ⟨ct, c, dr, c.burns, c.sights⟩) (g_var rfl) (g_var rfl) (g_var rfl) (EvG.imp (g_fld (g_var rfl) T.cl_Craft T.na_Craft_burns rfl) fun _ _ => pq_t) (EvG.imp (g_fld (g_var rfl) T.cl_Craft T.na_Craft_sightings rfl) fun _ _ => pq_t) ⟨p1.sf, hm.c, p2, hlc⟩) (kr _ (by show resC K (setD ct n dr) = _; rw [e, hc]; rfl))
/-! #### burns -/
theorem intdec {x y : Int} : decide (V.int x = V.int y) = decide (x = y) := by
  by_cases h : x = y
  · rw [decide_eq_true h, decide_eq_true (congrArg V.int h)]
  · rw [decide_eq_false h, decide_eq_false (fun z => h (V.int.inj z))]
abbrev sp_add_burn (K : PySem.W.Frag) : Sp := spX K (fun a : Ct × Str × Bu => [PCt K a.1, PS a.2.1, PBu K a.2.2]) (fun a => okCt 100 a.1) fun a => resC K (addBu a.1 a.2.1 a.2.2)
theorem d_add_burn (T : Tx w K mg) (NX_NoSuchCraft : XNP P w K mg base "NoSuchCraft") : DfX P w K mg base 6 "add_burn" ["contents", "name", "burn"] (sp_add_burn K) := by
  have G_craft_of := d_craft_of T NX_NoSuchCraft
  have G_changed_craft := d_changed_craft (P := P) (base := base) T
  obtain ⟨_, m_MOST_OF_CRAFT⟩ := T.i_MOST_OF_CRAFT
  refine df_X T.F_add_burn T.g_add_burn T.B_add_burn sc_add_burn (fun _ => rfl) (fun a => [some (PCt K a.1), some (PS a.2.1), some (PBu K a.2.2), none, none, none, none, none]) (fun _ => rfl) fun cdv A' outer s H E hr => ⟨_, (pss_cons (ps_set (i := 3) sc_add_burn.nd rfl (by first | exact Or.inl rfl | exact Or.inr rfl) (pe_dX G_craft_of hr (passX rfl rfl rfl rfl) (pa_cons (pv 0) (pa_cons (pv 1) pa_nil))))
    (pss_cons (ps_if (pt_cmpR op_lt (pe_fld (pv 2) rfl) (pe_fld (pv 3) rfl) (nomark _)) (pss_one (ps_raise rfl (takes_of rfl rfl rfl rfl) (pmk_own PySem.F.excBase_ValueError T.x_BeforeStart T.g_BeforeStart T.kx_BeforeStart (raises_own T.bx_BeforeStart T.tx_BeforeStart) rfl))) pss_nil)
    (pss_cons (ps_setLc (i := 5) (own := [("other", 4)]) (g := (gName 4)) rfl sc_add_burn.nd rfl rfl (sw_true rfl rfl rfl (by decide +kernel)) (pi_tup (pe_fld (pv 3) rfl)) (blkOk_by (N := N_add_burn) (sc := defScope S_add_burn) (by decide +kernel)) (fun _ _ _ _ _ => (pg_name (i := 4) sc_add_burn.nd rfl (Or.inl rfl))) (fun _ _ _ _ _ => pts_one (pt_cmpR op_ne (pe_fldK (K := K) (pv 4) rfl) (pe_fldK (K := K) (pv 2) rfl) (nomark _))) (fun _ _ _ _ _ => (pv 4)))
    (pss_cons (ps_for (passes_of rfl) rfl (pi_list (pv 5)) (pg_name (i := 4) sc_add_burn.nd rfl (by first | exact Or.inl rfl | exact Or.inr rfl)) (pss_one (ps_if (PW.pt (pw_and (pt_cmpR op_lt (pe_fld (pv 4) rfl) (pe_fld (pv 2) rfl) (nomark _)) (pw_and1 (pt_cmpR op_lt (pe_fld (pv 2) rfl) (pe_fld (pv 4) rfl) (nomark _))))) (pss_one (ps_raise rfl (takes_of rfl rfl rfl rfl) (pmk_own PySem.F.excBase_ValueError T.x_BurnsOverlap T.g_BurnsOverlap T.kx_BurnsOverlap (raises_own T.bx_BurnsOverlap T.tx_BurnsOverlap) rfl))) pss_nil)))
    (pss_cons (ps_if (pt_cmpR op_ge (pe_callB call_len_seq rfl T.n_len PySem.boot_len (pa_cons (pv 5) pa_nil)) (pe_glob (v := .int _) rfl m_MOST_OF_CRAFT ⟨_, rfl⟩) (nomark _)) (pss_one (ps_raise rfl (takes_of rfl rfl rfl rfl) (pmk_own PySem.F.excBase_ValueError T.x_TooMany T.g_TooMany T.kx_TooMany (raises_own T.bx_TooMany T.tx_TooMany) rfl))) pss_nil)
    (pss_cons (ps_setLc (i := 6) (own := [("other", 4)]) (g := (gName 4)) rfl sc_add_burn.nd rfl rfl (sw_true rfl rfl rfl (by decide +kernel)) (pi_list (pv 5)) (blkOk_by (N := N_add_burn) (sc := defScope S_add_burn) (by decide +kernel)) (fun _ _ _ _ _ => (pg_name (i := 4) sc_add_burn.nd rfl (Or.inl rfl))) (fun _ _ _ _ _ => pts_one (pt_cmpR op_lt (pe_fldK (K := K) (pv 4) rfl) (pe_fldK (K := K) (pv 2) rfl) (nomark _))) (fun _ _ _ _ _ => (pv 4)))
    (pss_cons (ps_setLc (i := 7) (own := [("other", 4)]) (g := (gName 4)) rfl sc_add_burn.nd rfl rfl (sw_true rfl rfl rfl (by decide +kernel)) (pi_list (pv 5)) (blkOk_by (N := N_add_burn) (sc := defScope S_add_burn) (by decide +kernel)) (fun _ _ _ _ _ => (pg_name (i := 4) sc_add_burn.nd rfl (Or.inl rfl))) (fun _ _ _ _ _ => pts_one (pt_cmpR op_gt (pe_fldK (K := K) (pv 4) rfl) (pe_fldK (K := K) (pv 2) rfl) (nomark _))) (fun _ _ _ _ _ => (pv 4)))
    (pss_one (ps_ret (pe_d G_changed_craft hr (pa_cons (pv 0) (pa_cons (pv 3) (pa_cons (pe_fld (pv 3) rfl) (pa_cons (pe_op op_cat (pe_op op_cat (pv 6) (pe_lst (pa_cons (pv 2) pa_nil))) (pv 7)) (pa_cons (pe_fld (pv 3) rfl) pa_nil))))))))))))))), ?_⟩
  intro a pre B0 z D ok kr ke
  obtain ⟨ct, n, b⟩ := a
  have pre : okCt 100 ct := pre
  have hlc : ct.crafts.length ≤ 1000 := Nat.le_trans pre.lc (by decide)
  refine sq_asgX ok (g_craft_of (g_var rfl) (g_var rfl)) (fun h => ke ?_) fun d h z1 H1 ok1 => ?_
  · show resC K (addBu ct n b) = none
    unfold addBu
    rw [Option.map_eq_none_iff.mp h]
    rfl
  obtain ⟨c, hc, rfl⟩ := Option.map_eq_some_iff.mp h
  have hm := pre.c c (findC_mem hc).1
  obtain ⟨os, hos⟩ : ∃ os, c.burns.filter (fun o => !decide (o.b = b.b)) = os := ⟨_, rfl⟩
  have e : addBu ct n b = if b.b < c.start then none else if os.any (fun o => decide (o.b < b.e) && decide (b.b < o.e)) then none else if 20 ≤ (os.length : Int) then none else
      some (chgC ct c c.drift (os.filter (fun o => decide (o.b < b.b)) ++ [b] ++ os.filter fun o => decide (o.b > b.b)) c.sights) := by
    unfold addBu
    rw [hc, ← hos]
  have hol : os.length ≤ 1000 := by
    rw [← hos]
    exact Nat.le_trans (List.length_filter_le _ _) hm.lb
  refine sq_if0 ok1 (t_test (g_I0 (g_fld (g_var rfl) T.cl_Burn T.na_Burn_begin rfl) (g_fld (g_var rfl) T.cl_Craft T.na_Craft_start rfl))) (fun hb H2 ok2 => ?_) fun hb H2 ok2 => ?_
  · exact ok2.ke T.m_BeforeStart (ke (congrArg (resC K) (e.trans (if_pos (of_decide_eq_true hb)))))
  rw [if_neg (of_decide_eq_false hb)] at e
  refine sq_asg ok2 (EvG.is (d' := PL (os.map (PBu K))) (g_lcT (vs := [4]) c.burns (PBu K) (PBu K) (fun o => !decide (o.b = b.b)) (fun o => [some (PCt K ct), some (PS n), some (PBu K b), some (PCr K c), some (PBu K o), none, none, none]) (g_fld (g_var rfl) T.cl_Craft T.na_Craft_burns rfl) (by have := hm.lb; omega) (fun _ _ => tc_name)
    (fun o _ => t_test (EvG.is (g_op (g_fld (g_var rfl) T.cl_Burn T.na_Burn_begin rfl) (g_fld (g_var rfl) T.cl_Burn T.na_Burn_begin rfl) (r_ne rfl)) (congrArg (fun b => PB (!b)) intdec))) (fun o _ _ => g_var rfl)) (by rw [hos])) fun z3 H3 ok3 => ?_
  refine sq (st_forLm os (PBu K) (fun i (_ : Unit) => (os.take i).any (fun o => decide (o.b < b.e) && decide (b.b < o.e)) = false) (fun _ _ => [some (PCt K ct), some (PS n), some (PBu K b), some (PCr K c), none, some (PL (os.map (PBu K))), none, none]) (fun y _ _ => [some (PCt K ct), some (PS n), some (PBu K b), some (PCr K c), some (PBu K y), some (PL (os.map (PBu K))), none, none]) (fun _ _ => none) () rfl ok3 (g_var rfl) (fun y i x => tg_name) (fun C0 C up i y x hy r s' H' ok4 N hN => ?_) (fun x s' H' r ok4 => ?_))
  · refine st_if ok4 (t_and (t_test (g_I0 (g_fld (g_var rfl) T.cl_Burn T.na_Burn_begin rfl) (g_fld (g_var rfl) T.cl_Burn T.na_Burn_end rfl))) (fun _ => t_test (g_I0 (g_fld (g_var rfl) T.cl_Burn T.na_Burn_begin rfl) (g_fld (g_var rfl) T.cl_Burn T.na_Burn_end rfl)))) (fun hb H5 ok5 => ?_) fun hb H5 ok5 => hN _ _ () ?_ (ok5.forget [4])
    · refine (up ok5).ke T.m_BurnsOverlap (ke (congrArg (resC K) (e.trans (if_pos ?_))))
      exact List.any_eq_true.mpr ⟨y, List.mem_of_getElem? hy, hb⟩
    · rw [take_at hy, List.any_append, r]
      simpa using hb
  rw [List.take_length] at r
  rw [r, if_neg Bool.false_ne_true] at e
  dsimp only
  refine sq_if0 ok4 (t_test (g_I0 (g_cb (a_cons (g_var rfl) a_nil) r_lenL) g_c)) (fun hb H5 ok5 => ?_) fun hb H5 ok5 => ?_
  · rw [List.length_map] at hb
    exact ok5.ke T.m_TooMany (ke (congrArg (resC K) (e.trans (if_pos (of_decide_eq_true hb)))))
  rw [List.length_map] at hb
  rw [if_neg (of_decide_eq_false hb)] at e
  refine sq_asg ok5 (g_lcL (vs := [4]) os (PBu K) (PBu K) (fun o => decide (o.b < b.b)) (fun o => [some (PCt K ct), some (PS n), some (PBu K b), some (PCr K c), some (PBu K o), some (PL (os.map (PBu K))), none, none]) (g_var rfl) (by omega) (fun _ _ => tc_name)
    (fun o _ => t_test (g_I0 (g_fld (g_var rfl) T.cl_Burn T.na_Burn_begin rfl) (g_fld (g_var rfl) T.cl_Burn T.na_Burn_begin rfl))) (fun o _ _ => g_var rfl)) fun z6 H6 ok6 => ?_
  refine sq_asg ok6 (g_lcL (vs := [4]) os (PBu K) (PBu K) (fun o => decide (o.b > b.b)) (fun o => [some (PCt K ct), some (PS n), some (PBu K b), some (PCr K c), some (PBu K o), some (PL (os.map (PBu K))), some (PL ((os.filter fun o => decide (o.b < b.b)).map (PBu K))), none]) (g_var rfl) (by omega) (fun _ _ => tc_name)
    (fun o _ => t_test (g_I0 (g_fld (g_var rfl) T.cl_Burn T.na_Burn_begin rfl) (g_fld (g_var rfl) T.cl_Burn T.na_Burn_begin rfl))) (fun o _ _ => g_var rfl)) fun z7 H7 ok7 => ?_
  have l1 := List.length_filter_le (fun o : Bu => decide (o.b < b.b)) os
  have l2 := List.length_filter_le (fun o : Bu => decide (o.b > b.b)) os
  refine st_ret ok7 (g_changed_craft (a := ⟨ct, c, c.drift, os.filter (fun o => decide (o.b < b.b)) ++ [b] ++ os.filter (fun o => decide (o.b > b.b)), c.sights⟩) (g_var rfl) (g_var rfl) (g_fld (g_var rfl) T.cl_Craft T.na_Craft_drift rfl)
    (EvG.imp (EvG.is (g_op (g_op (g_var rfl) (g_lst (a_cons (g_var rfl) a_nil) (Nat.le_of_ble_eq_true rfl)) (r_cat ?_)) (g_var rfl) (r_cat ?_)) ?_) fun _ _ => pq_l) (EvG.imp (g_fld (g_var rfl) T.cl_Craft T.na_Craft_sightings rfl) fun _ _ => pq_t) ⟨pre.sf, hm.c, hm.c.d, hlc⟩) (kr _ (congrArg (resC K) e))
  · rw [List.length_map, List.length_singleton]
    omega
  · rw [List.length_append, List.length_map, List.length_singleton, List.length_map]
    omega
  · rw [List.map_append, List.map_append]
    rfl
/-! #### drop_burn, sightings, sites -/
abbrev sp_drop_burn (K : PySem.W.Frag) : Sp := spX K (fun a : Ct × Str × Int => [PCt K a.1, PS a.2.1, PI a.2.2]) (fun a => okCt 100 a.1) fun a => resC K (dropB a.1 a.2.1 a.2.2)
theorem d_drop_burn (T : Tx w K mg) (NX_NoSuchCraft : XNP P w K mg base "NoSuchCraft") : DfX P w K mg base 6 "drop_burn" ["contents", "name", "begin"] (sp_drop_burn K) := by
  have G_craft_of := d_craft_of T NX_NoSuchCraft
  have G_changed_craft := d_changed_craft (P := P) (base := base) T
  refine df_X T.F_drop_burn T.g_drop_burn T.B_drop_burn sc_drop_burn (fun _ => rfl) (fun a => [some (PCt K a.1), some (PS a.2.1), some (PI a.2.2), none, none, none]) (fun _ => rfl) fun cdv A' outer s H E hr => ⟨_, (pss_cons (ps_set (i := 3) sc_drop_burn.nd rfl (by first | exact Or.inl rfl | exact Or.inr rfl) (pe_dX G_craft_of hr (passX rfl rfl rfl rfl) (pa_cons (pv 0) (pa_cons (pv 1) pa_nil))))
    (pss_cons (ps_setLc (i := 5) (own := [("burn", 4)]) (g := (gName 4)) rfl sc_drop_burn.nd rfl rfl (sw_true rfl rfl rfl (by decide +kernel)) (pi_tup (pe_fld (pv 3) rfl)) (blkOk_by (N := N_drop_burn) (sc := defScope S_drop_burn) (by decide +kernel)) (fun _ _ _ _ _ => (pg_name (i := 4) sc_drop_burn.nd rfl (Or.inl rfl))) (fun _ _ _ _ _ => pts_one (pt_cmpR op_ne (pe_fldK (K := K) (pv 4) rfl) (pv 2) (nomark _))) (fun _ _ _ _ _ => (pv 4)))
    (pss_cons (ps_if (pt_cmpR op_eq (pe_callB call_len_seq rfl T.n_len PySem.boot_len (pa_cons (pv 5) pa_nil)) (pe_callB call_len_seq rfl T.n_len PySem.boot_len (pa_cons (pe_fld (pv 3) rfl) pa_nil)) (nomark _)) (pss_one (ps_raise rfl (takes_of rfl rfl rfl rfl) (pmk_own PySem.F.excBase_ValueError T.x_NoSuchBurn T.g_NoSuchBurn T.kx_NoSuchBurn (raises_own T.bx_NoSuchBurn T.tx_NoSuchBurn) rfl))) pss_nil)
    (pss_one (ps_ret (pe_d G_changed_craft hr (pa_cons (pv 0) (pa_cons (pv 3) (pa_cons (pe_fld (pv 3) rfl) (pa_cons (pv 5) (pa_cons (pe_fld (pv 3) rfl) pa_nil))))))))))), ?_⟩
  intro a pre B0 z D ok kr ke
  obtain ⟨ct, n, b⟩ := a
  have pre : okCt 100 ct := pre
  have hlc : ct.crafts.length ≤ 1000 := Nat.le_trans pre.lc (by decide)
  refine sq_asgX ok (g_craft_of (g_var rfl) (g_var rfl)) (fun h => ke ?_) fun d h z1 H1 ok1 => ?_
  · show resC K (dropB ct n b) = none
    unfold dropB
    rw [Option.map_eq_none_iff.mp h]
    rfl
  obtain ⟨c, hc, rfl⟩ := Option.map_eq_some_iff.mp h
  have hm := pre.c c (findC_mem hc).1
  obtain ⟨os, hos⟩ : ∃ os, c.burns.filter (fun o => !decide (o.b = b)) = os := ⟨_, rfl⟩
  have e : dropB ct n b = if (os.length : Int) = c.burns.length then none else some (chgC ct c c.drift os c.sights) := by
    unfold dropB
    rw [hc, ← hos]
  refine sq_asg ok1 (EvG.is (d' := PL (os.map (PBu K))) (g_lcT (vs := [4]) c.burns (PBu K) (PBu K) (fun o => !decide (o.b = b)) (fun o => [some (PCt K ct), some (PS n), some (PI b), some (PCr K c), some (PBu K o), none]) (g_fld (g_var rfl) T.cl_Craft T.na_Craft_burns rfl) (by have := hm.lb; omega) (fun _ _ => tc_name)
    (fun o _ => t_test (EvG.is (g_op (g_fld (g_var rfl) T.cl_Burn T.na_Burn_begin rfl) (g_var rfl) (r_ne rfl)) (congrArg (fun b => PB (!b)) intdec))) (fun o _ _ => g_var rfl)) (by rw [hos])) fun z3 H3 ok3 => ?_
  refine sq_if0 ok3 (t_test (g_op (g_cb (a_cons (g_var rfl) a_nil) r_lenL) (g_cb (a_cons (g_fld (g_var rfl) T.cl_Craft T.na_Craft_burns rfl) a_nil) r_lenT) (r_eq rfl))) (fun hb H5 ok5 => ?_) fun hb H5 ok5 => ?_
  · rw [List.length_map, List.length_map] at hb
    exact ok5.ke T.m_NoSuchBurn (ke (congrArg (resC K) (e.trans (if_pos (V.int.inj (of_decide_eq_true hb))))))
  rw [List.length_map, List.length_map] at hb
  rw [if_neg (fun z => of_decide_eq_false hb (congrArg V.int z))] at e
  exact st_ret ok5 (g_changed_craft (a := ⟨ct, c, c.drift, os, c.sights⟩) (g_var rfl) (g_var rfl) (g_fld (g_var rfl) T.cl_Craft T.na_Craft_drift rfl) (EvG.imp (g_var rfl) fun _ _ => pq_l) (EvG.imp (g_fld (g_var rfl) T.cl_Craft T.na_Craft_sightings rfl) fun _ _ => pq_t) ⟨pre.sf, hm.c, hm.c.d, hlc⟩) (kr _ (congrArg (resC K) e))
abbrev sp_drop_sighting (K : PySem.W.Frag) : Sp := spX K (fun a : Ct × Str × Int => [PCt K a.1, PS a.2.1, PI a.2.2]) (fun a => okCt 100 a.1) fun a => resC K (dropG a.1 a.2.1 a.2.2)
theorem d_drop_sighting (T : Tx w K mg) (NX_NoSuchCraft : XNP P w K mg base "NoSuchCraft") : DfX P w K mg base 6 "drop_sighting" ["contents", "name", "at"] (sp_drop_sighting K) := by
  have G_craft_of := d_craft_of T NX_NoSuchCraft
  have G_changed_craft := d_changed_craft (P := P) (base := base) T
  refine df_X T.F_drop_sighting T.g_drop_sighting T.B_drop_sighting sc_drop_sighting (fun _ => rfl) (fun a => [some (PCt K a.1), some (PS a.2.1), some (PI a.2.2), none, none, none]) (fun _ => rfl) fun cdv A' outer s H E hr => ⟨_, (pss_cons (ps_set (i := 3) sc_drop_sighting.nd rfl (by first | exact Or.inl rfl | exact Or.inr rfl) (pe_dX G_craft_of hr (passX rfl rfl rfl rfl) (pa_cons (pv 0) (pa_cons (pv 1) pa_nil))))
    (pss_cons (ps_setLc (i := 5) (own := [("sighting", 4)]) (g := (gName 4)) rfl sc_drop_sighting.nd rfl rfl (sw_true rfl rfl rfl (by decide +kernel)) (pi_tup (pe_fld (pv 3) rfl)) (blkOk_by (N := N_drop_sighting) (sc := defScope S_drop_sighting) (by decide +kernel)) (fun _ _ _ _ _ => (pg_name (i := 4) sc_drop_sighting.nd rfl (Or.inl rfl))) (fun _ _ _ _ _ => pts_one (pt_cmpR op_ne (pe_fldK (K := K) (pv 4) rfl) (pv 2) (nomark _))) (fun _ _ _ _ _ => (pv 4)))
    (pss_cons (ps_if (pt_cmpR op_eq (pe_callB call_len_seq rfl T.n_len PySem.boot_len (pa_cons (pv 5) pa_nil)) (pe_callB call_len_seq rfl T.n_len PySem.boot_len (pa_cons (pe_fld (pv 3) rfl) pa_nil)) (nomark _)) (pss_one (ps_raise rfl (takes_of rfl rfl rfl rfl) (pmk_own PySem.F.excBase_ValueError T.x_NoSuchSighting T.g_NoSuchSighting T.kx_NoSuchSighting (raises_own T.bx_NoSuchSighting T.tx_NoSuchSighting) rfl))) pss_nil)
    (pss_one (ps_ret (pe_d G_changed_craft hr (pa_cons (pv 0) (pa_cons (pv 3) (pa_cons (pe_fld (pv 3) rfl) (pa_cons (pe_fld (pv 3) rfl) (pa_cons (pv 5) pa_nil))))))))))), ?_⟩
  intro a pre B0 z D ok kr ke
  obtain ⟨ct, n, b⟩ := a
  have pre : okCt 100 ct := pre
  have hlc : ct.crafts.length ≤ 1000 := Nat.le_trans pre.lc (by decide)
  refine sq_asgX ok (g_craft_of (g_var rfl) (g_var rfl)) (fun h => ke ?_) fun d h z1 H1 ok1 => ?_
  · show resC K (dropG ct n b) = none
    unfold dropG
    rw [Option.map_eq_none_iff.mp h]
    rfl
  obtain ⟨c, hc, rfl⟩ := Option.map_eq_some_iff.mp h
  have hm := pre.c c (findC_mem hc).1
  obtain ⟨os, hos⟩ : ∃ os, c.sights.filter (fun o => !decide (o.t = b)) = os := ⟨_, rfl⟩
  have e : dropG ct n b = if (os.length : Int) = c.sights.length then none else some (chgC ct c c.drift c.burns os) := by
    unfold dropG
    rw [hc, ← hos]
  refine sq_asg ok1 (EvG.is (d' := PL (os.map (PSg K))) (g_lcT (vs := [4]) c.sights (PSg K) (PSg K) (fun o => !decide (o.t = b)) (fun o => [some (PCt K ct), some (PS n), some (PI b), some (PCr K c), some (PSg K o), none]) (g_fld (g_var rfl) T.cl_Craft T.na_Craft_sightings rfl) (by have := hm.ls; omega) (fun _ _ => tc_name)
    (fun o _ => t_test (EvG.is (g_op (g_fld (g_var rfl) T.cl_Sighting T.na_Sighting_at rfl) (g_var rfl) (r_ne rfl)) (congrArg (fun b => PB (!b)) intdec))) (fun o _ _ => g_var rfl)) (by rw [hos])) fun z3 H3 ok3 => ?_
  refine sq_if0 ok3 (t_test (g_op (g_cb (a_cons (g_var rfl) a_nil) r_lenL) (g_cb (a_cons (g_fld (g_var rfl) T.cl_Craft T.na_Craft_sightings rfl) a_nil) r_lenT) (r_eq rfl))) (fun hb H5 ok5 => ?_) fun hb H5 ok5 => ?_
  · rw [List.length_map, List.length_map] at hb
    exact ok5.ke T.m_NoSuchSighting (ke (congrArg (resC K) (e.trans (if_pos (V.int.inj (of_decide_eq_true hb))))))
  rw [List.length_map, List.length_map] at hb
  rw [if_neg (fun z => of_decide_eq_false hb (congrArg V.int z))] at e
  exact st_ret ok5 (g_changed_craft (a := ⟨ct, c, c.drift, c.burns, os⟩) (g_var rfl) (g_var rfl) (g_fld (g_var rfl) T.cl_Craft T.na_Craft_drift rfl) (EvG.imp (g_fld (g_var rfl) T.cl_Craft T.na_Craft_burns rfl) fun _ _ => pq_t) (EvG.imp (g_var rfl) fun _ _ => pq_l) ⟨pre.sf, hm.c, hm.c.d, hlc⟩) (kr _ (congrArg (resC K) e))
abbrev sp_add_sighting (K : PySem.W.Frag) : Sp := spX K (fun a : Ct × Str × Sg => [PCt K a.1, PS a.2.1, PSg K a.2.2]) (fun a => okCt 100 a.1) fun a => resC K (addG a.1 a.2.1 a.2.2)
theorem d_add_sighting (T : Tx w K mg) (NX_NoSuchCraft : XNP P w K mg base "NoSuchCraft") : DfX P w K mg base 6 "add_sighting" ["contents", "name", "sighting"] (sp_add_sighting K) := by
  have G_craft_of := d_craft_of T NX_NoSuchCraft
  have G_changed_craft := d_changed_craft (P := P) (base := base) T
  obtain ⟨_, m_MOST_OF_CRAFT⟩ := T.i_MOST_OF_CRAFT
  refine df_X T.F_add_sighting T.g_add_sighting T.B_add_sighting sc_add_sighting (fun _ => rfl) (fun a => [some (PCt K a.1), some (PS a.2.1), some (PSg K a.2.2), none, none, none, none, none]) (fun _ => rfl) fun cdv A' outer s H E hr => ⟨_, (pss_cons (ps_set (i := 3) sc_add_sighting.nd rfl (by first | exact Or.inl rfl | exact Or.inr rfl) (pe_dX G_craft_of hr (passX rfl rfl rfl rfl) (pa_cons (pv 0) (pa_cons (pv 1) pa_nil))))
    (pss_cons (ps_if (pt_cmpR op_lt (pe_fld (pv 2) rfl) (pe_fld (pv 3) rfl) (nomark _)) (pss_one (ps_raise rfl (takes_of rfl rfl rfl rfl) (pmk_own PySem.F.excBase_ValueError T.x_BeforeStart T.g_BeforeStart T.kx_BeforeStart (raises_own T.bx_BeforeStart T.tx_BeforeStart) rfl))) pss_nil)
    (pss_cons (ps_setLc (i := 5) (own := [("other", 4)]) (g := (gName 4)) rfl sc_add_sighting.nd rfl rfl (sw_true rfl rfl rfl (by decide +kernel)) (pi_tup (pe_fld (pv 3) rfl)) (blkOk_by (N := N_add_sighting) (sc := defScope S_add_sighting) (by decide +kernel)) (fun _ _ _ _ _ => (pg_name (i := 4) sc_add_sighting.nd rfl (Or.inl rfl))) (fun _ _ _ _ _ => pts_one (pt_cmpR op_ne (pe_fldK (K := K) (pv 4) rfl) (pe_fldK (K := K) (pv 2) rfl) (nomark _))) (fun _ _ _ _ _ => (pv 4)))
    (pss_cons (ps_if (pt_cmpR op_ge (pe_callB call_len_seq rfl T.n_len PySem.boot_len (pa_cons (pv 5) pa_nil)) (pe_glob (v := .int _) rfl m_MOST_OF_CRAFT ⟨_, rfl⟩) (nomark _)) (pss_one (ps_raise rfl (takes_of rfl rfl rfl rfl) (pmk_own PySem.F.excBase_ValueError T.x_TooMany T.g_TooMany T.kx_TooMany (raises_own T.bx_TooMany T.tx_TooMany) rfl))) pss_nil)
    (pss_cons (ps_setLc (i := 6) (own := [("other", 4)]) (g := (gName 4)) rfl sc_add_sighting.nd rfl rfl (sw_true rfl rfl rfl (by decide +kernel)) (pi_list (pv 5)) (blkOk_by (N := N_add_sighting) (sc := defScope S_add_sighting) (by decide +kernel)) (fun _ _ _ _ _ => (pg_name (i := 4) sc_add_sighting.nd rfl (Or.inl rfl))) (fun _ _ _ _ _ => pts_one (pt_cmpR op_lt (pe_fldK (K := K) (pv 4) rfl) (pe_fldK (K := K) (pv 2) rfl) (nomark _))) (fun _ _ _ _ _ => (pv 4)))
    (pss_cons (ps_setLc (i := 7) (own := [("other", 4)]) (g := (gName 4)) rfl sc_add_sighting.nd rfl rfl (sw_true rfl rfl rfl (by decide +kernel)) (pi_list (pv 5)) (blkOk_by (N := N_add_sighting) (sc := defScope S_add_sighting) (by decide +kernel)) (fun _ _ _ _ _ => (pg_name (i := 4) sc_add_sighting.nd rfl (Or.inl rfl))) (fun _ _ _ _ _ => pts_one (pt_cmpR op_gt (pe_fldK (K := K) (pv 4) rfl) (pe_fldK (K := K) (pv 2) rfl) (nomark _))) (fun _ _ _ _ _ => (pv 4)))
    (pss_one (ps_ret (pe_d G_changed_craft hr (pa_cons (pv 0) (pa_cons (pv 3) (pa_cons (pe_fld (pv 3) rfl) (pa_cons (pe_fld (pv 3) rfl) (pa_cons (pe_op op_cat (pe_op op_cat (pv 6) (pe_lst (pa_cons (pv 2) pa_nil))) (pv 7)) pa_nil)))))))))))))), ?_⟩
  intro a pre B0 z D ok kr ke
  obtain ⟨ct, n, b⟩ := a
  have pre : okCt 100 ct := pre
  have hlc : ct.crafts.length ≤ 1000 := Nat.le_trans pre.lc (by decide)
  refine sq_asgX ok (g_craft_of (g_var rfl) (g_var rfl)) (fun h => ke ?_) fun d h z1 H1 ok1 => ?_
  · show resC K (addG ct n b) = none
    unfold addG
    rw [Option.map_eq_none_iff.mp h]
    rfl
  obtain ⟨c, hc, rfl⟩ := Option.map_eq_some_iff.mp h
  have hm := pre.c c (findC_mem hc).1
  obtain ⟨os, hos⟩ : ∃ os, c.sights.filter (fun o => !decide (o.t = b.t)) = os := ⟨_, rfl⟩
  have e : addG ct n b = if b.t < c.start then none else if 20 ≤ (os.length : Int) then none else
      some (chgC ct c c.drift c.burns (os.filter (fun o => decide (o.t < b.t)) ++ [b] ++ os.filter fun o => decide (o.t > b.t))) := by
    unfold addG
    rw [hc, ← hos]
  have hol : os.length ≤ 1000 := by
    rw [← hos]
    exact Nat.le_trans (List.length_filter_le _ _) hm.ls
  refine sq_if0 ok1 (t_test (g_I0 (g_fld (g_var rfl) T.cl_Sighting T.na_Sighting_at rfl) (g_fld (g_var rfl) T.cl_Craft T.na_Craft_start rfl))) (fun hb H2 ok2 => ?_) fun hb H2 ok2 => ?_
  · exact ok2.ke T.m_BeforeStart (ke (congrArg (resC K) (e.trans (if_pos (of_decide_eq_true hb)))))
  rw [if_neg (of_decide_eq_false hb)] at e
  refine sq_asg ok2 (EvG.is (d' := PL (os.map (PSg K))) (g_lcT (vs := [4]) c.sights (PSg K) (PSg K) (fun o => !decide (o.t = b.t)) (fun o => [some (PCt K ct), some (PS n), some (PSg K b), some (PCr K c), some (PSg K o), none, none, none]) (g_fld (g_var rfl) T.cl_Craft T.na_Craft_sightings rfl) (by have := hm.ls; omega) (fun _ _ => tc_name)
    (fun o _ => t_test (EvG.is (g_op (g_fld (g_var rfl) T.cl_Sighting T.na_Sighting_at rfl) (g_fld (g_var rfl) T.cl_Sighting T.na_Sighting_at rfl) (r_ne rfl)) (congrArg (fun b => PB (!b)) intdec))) (fun o _ _ => g_var rfl)) (by rw [hos])) fun z3 H3 ok3 => ?_
  refine sq_if0 ok3 (t_test (g_I0 (g_cb (a_cons (g_var rfl) a_nil) r_lenL) g_c)) (fun hb H5 ok5 => ?_) fun hb H5 ok5 => ?_
  · rw [List.length_map] at hb
    exact ok5.ke T.m_TooMany (ke (congrArg (resC K) (e.trans (if_pos (of_decide_eq_true hb)))))
  rw [List.length_map] at hb
  rw [if_neg (of_decide_eq_false hb)] at e
  refine sq_asg ok5 (g_lcL (vs := [4]) os (PSg K) (PSg K) (fun o => decide (o.t < b.t)) (fun o => [some (PCt K ct), some (PS n), some (PSg K b), some (PCr K c), some (PSg K o), some (PL (os.map (PSg K))), none, none]) (g_var rfl) (by omega) (fun _ _ => tc_name)
    (fun o _ => t_test (g_I0 (g_fld (g_var rfl) T.cl_Sighting T.na_Sighting_at rfl) (g_fld (g_var rfl) T.cl_Sighting T.na_Sighting_at rfl))) (fun o _ _ => g_var rfl)) fun z6 H6 ok6 => ?_
  refine sq_asg ok6 (g_lcL (vs := [4]) os (PSg K) (PSg K) (fun o => decide (o.t > b.t)) (fun o => [some (PCt K ct), some (PS n), some (PSg K b), some (PCr K c), some (PSg K o), some (PL (os.map (PSg K))), some (PL ((os.filter fun o => decide (o.t < b.t)).map (PSg K))), none]) (g_var rfl) (by omega) (fun _ _ => tc_name)
    (fun o _ => t_test (g_I0 (g_fld (g_var rfl) T.cl_Sighting T.na_Sighting_at rfl) (g_fld (g_var rfl) T.cl_Sighting T.na_Sighting_at rfl))) (fun o _ _ => g_var rfl)) fun z7 H7 ok7 => ?_
  have l1 := List.length_filter_le (fun o : Sg => decide (o.t < b.t)) os
  have l2 := List.length_filter_le (fun o : Sg => decide (o.t > b.t)) os
  refine st_ret ok7 (g_changed_craft (a := ⟨ct, c, c.drift, c.burns, os.filter (fun o => decide (o.t < b.t)) ++ [b] ++ os.filter (fun o => decide (o.t > b.t))⟩) (g_var rfl) (g_var rfl) (g_fld (g_var rfl) T.cl_Craft T.na_Craft_drift rfl)
    (EvG.imp (g_fld (g_var rfl) T.cl_Craft T.na_Craft_burns rfl) fun _ _ => pq_t) (EvG.imp (EvG.is (g_op (g_op (g_var rfl) (g_lst (a_cons (g_var rfl) a_nil) (Nat.le_of_ble_eq_true rfl)) (r_cat ?_)) (g_var rfl) (r_cat ?_)) ?_) fun _ _ => pq_l) ⟨pre.sf, hm.c, hm.c.d, hlc⟩) (kr _ (congrArg (resC K) e))
  · rw [List.length_map, List.length_singleton]
    omega
  · rw [List.length_append, List.length_map, List.length_singleton, List.length_map]
    omega
  · rw [List.map_append, List.map_append]
    rfl
abbrev sp_add_site (K : PySem.W.Frag) : Sp := spX K (fun a : Ct × Si => [PCt K a.1, PSi K a.2]) (fun a => okCt 100 a.1) fun a => resC K (addS a.1 a.2)
theorem d_add_site (T : Tx w K mg) : DfX P w K mg base 5 "add_site" ["contents", "site"] (sp_add_site K) := by
  have G_find_named := d_find_named (P := P) (base := base) T
  have G_put_named := d_put_named (P := P) (base := base) T
  have G_with_sites := d_with_sites (P := P) (base := base) T
  obtain ⟨_, m_MOST_SITES⟩ := T.i_MOST_SITES
  refine df_X T.F_add_site T.g_add_site T.B_add_site sc_add_site (fun _ => rfl) (fun a => [some (PCt K a.1), some (PSi K a.2)]) (fun _ => rfl) fun cdv A' outer s H E hr => ⟨_, (pss_cons (ps_if (PW.pt (pw_and (pt_cmpR op_isN (pe_d G_find_named hr (pa_cons (pe_fld (pv 0) rfl) (pa_cons (pe_fld (pv 1) rfl) pa_nil))) pe_non (nomark _)) (pw_and1 (pt_cmpR op_ge (pe_callB call_len_seq rfl T.n_len PySem.boot_len (pa_cons (pe_fld (pv 0) rfl) pa_nil)) (pe_glob (v := .int _) rfl m_MOST_SITES ⟨_, rfl⟩) (nomark _))))) (pss_one (ps_raise rfl (takes_of rfl rfl rfl rfl) (pmk_own PySem.F.excBase_ValueError T.x_TooMany T.g_TooMany T.kx_TooMany (raises_own T.bx_TooMany T.tx_TooMany) rfl))) pss_nil)
    (pss_one (ps_ret (pe_d G_with_sites hr (pa_cons (pv 0) (pa_cons (pe_d G_put_named hr (pa_cons (pe_fld (pv 0) rfl) (pa_cons (pv 1) pa_nil))) pa_nil)))))), ?_⟩
  intro a pre B0 z D ok kr ke
  obtain ⟨ct, c⟩ := a
  have pre : okCt 100 ct := pre
  have hlc : ct.sites.length ≤ 1000 := Nat.le_trans pre.ls (by decide)
  have hl : (ct.sites.map (PSi K)).length = ct.sites.length := List.length_map ..
  refine sq_if0 ok (t_and (t_test (g_isN (g_findS T (g_fld (g_var rfl) T.cl_Contents T.na_Contents_sites rfl) (g_fld (g_var rfl) T.cl_Site T.na_Site_name rfl)) fun _ _ h => popt_nonO h)) (fun _ => t_test (g_I0 (g_cb (a_cons (g_fld (g_var rfl) T.cl_Contents T.na_Contents_sites rfl) a_nil) r_lenT) g_c))) (fun hb H1 ok1 => ?_) fun hb H1 ok1 => ?_
  · refine ok1.ke T.m_TooMany (ke (congrArg (resC K) (show addS ct c = none from if_pos ?_)))
    rw [hl] at hb
    exact hb
  rw [hl] at hb
  have e : addS ct c = some (withS ct (putN Si.name ct.sites c)) := if_neg (by rw [show ((findS ct.sites c.name).isNone && decide (10 ≤ (ct.sites.length : Int))) = false from hb]; exact Bool.false_ne_true)
  exact st_ret ok1 (g_with_sites (g_var rfl) (g_putS T (g_fld (g_var rfl) T.cl_Contents T.na_Contents_sites rfl) (g_var rfl) hlc) pre.sf) (kr _ (congrArg (resC K) e))
abbrev sp_drop_site (K : PySem.W.Frag) : Sp := spX K (fun a : Ct × Str => [PCt K a.1, PS a.2]) (fun a => okCt 100 a.1) fun a => resC K (dropS a.1 a.2)
theorem d_drop_site (T : Tx w K mg) (NX_NoSuchSite : XNP P w K mg base "NoSuchSite") : DfX P w K mg base 6 "drop_site" ["contents", "name"] (sp_drop_site K) := by
  have G_site_of := d_site_of T NX_NoSuchSite
  have G_drop_named := d_drop_named (P := P) (base := base) T
  have G_with_sites := d_with_sites (P := P) (base := base) T
  refine df_X T.F_drop_site T.g_drop_site T.B_drop_site sc_drop_site (fun _ => rfl) (fun a => [some (PCt K a.1), some (PS a.2)]) (fun _ => rfl) fun cdv A' outer s H E hr => ⟨_, (pss_cons (ps_expr (pe_dX G_site_of hr (passX rfl rfl rfl rfl) (pa_cons (pv 0) (pa_cons (pv 1) pa_nil))))
    (pss_one (ps_ret (pe_d G_with_sites hr (pa_cons (pv 0) (pa_cons (pe_d G_drop_named hr (pa_cons (pe_fld (pv 0) rfl) (pa_cons (pv 1) pa_nil))) pa_nil)))))), ?_⟩
  intro a pre B0 z D ok kr ke
  obtain ⟨ct, n⟩ := a
  have pre : okCt 100 ct := pre
  have hlc : ct.sites.length ≤ 1000 := Nat.le_trans pre.ls (by decide)
  have e : dropS ct n = (findS ct.sites n).map fun _ => withS ct (ct.sites.filter fun c => !decide (c.name = n)) := rfl
  refine sq_dropX ok (g_site_of (g_var rfl) (g_var rfl)) (fun h => ke ?_) fun d h H1 ok1 => ?_
  · show resC K (dropS ct n) = none
    rw [e, Option.map_eq_none_iff.mp h]
    rfl
  obtain ⟨c, hc, _⟩ := Option.map_eq_some_iff.mp h
  exact st_ret ok1 (g_with_sites (g_var rfl) (g_delS T (g_fld (g_var rfl) T.cl_Contents T.na_Contents_sites rfl) (g_var rfl) hlc) pre.sf) (kr _ (by show resC K (dropS ct n) = _; rw [e, hc]; rfl))
end
end K9
set_option Elab.async false
set_option linter.all false
set_option maxRecDepth 100000
set_option maxHeartbeats 4000000
/-! K9D8: apply_edit. -/
namespace K9
open PySem PySem.Spec PyProof.Rows L2
inductive Ed where
  | stride (n : Int)
  | fine (n : Int)
  | addC (c : Cr)
  | dropC (n : Str)
  | addS (x : Si)
  | dropS (n : Str)
  | drift (n : Str) (d : Int)
  | addB (n : Str) (b : Bu)
  | dropB (n : Str) (t : Int)
  | addG (n : Str) (s : Sg)
  | dropG (n : Str) (t : Int)
def Ed.ds (K : PySem.W.Frag) : Ed → List Dn
  | .stride n => [PS "set stride", PI n]
  | .fine n => [PS "set fineness", PI n]
  | .addC c => [PS "add craft", PCr K c]
  | .dropC n => [PS "drop craft", PS n]
  | .addS x => [PS "add site", PSi K x]
  | .dropS n => [PS "drop site", PS n]
  | .drift n d => [PS "set drift", PS n, PI d]
  | .addB n b => [PS "add burn", PS n, PBu K b]
  | .dropB n t => [PS "drop burn", PS n, PI t]
  | .addG n s => [PS "add sighting", PS n, PSg K s]
  | .dropG n t => [PS "drop sighting", PS n, PI t]
def applyM (ct : Ct) : Ed → Option Ct
  | .stride n => some { ct with stride := n }
  | .fine n => some { ct with fine := n }
  | .addC c => K9.addC ct c
  | .dropC n => K9.dropC ct n
  | .addS x => K9.addS ct x
  | .dropS n => K9.dropS ct n
  | .drift n d => setD ct n d
  | .addB n b => addBu ct n b
  | .dropB n t => K9.dropB ct n t
  | .addG n s => K9.addG ct n s
  | .dropG n t => K9.dropG ct n t
def okEd : Ed → Prop
  | .stride n => 1 ≤ n ∧ n ≤ 1000
  | .fine n => 0 ≤ n ∧ n ≤ 6
  | .addC c => okCr c
  | .dropC n => True
  | .addS x => okSi x
  | .dropS n => True
  | .drift n d => okDr d
  | .addB n b => okBu b
  | .dropB n t => True
  | .addG n s => okSg s
  | .dropG n t => True
section
variable {P : Program} {w : World} {K : PySem.W.Frag} {mg : Str → Option Value} {base : Heap} {G : Cn} {ta tb tc td te : TE} {E : XK}
theorem g_inD {d : Addr} {z : Str} {r : Option Value} (ha : EvG ta G (PS z)) (h : PySem.W.nsIn K d z = some r) : EvG (tOp (fun x y H Q => ∃ (z : Str) (r : Option Value), x = V.str z ∧ y = V.ref d ∧ PySem.W.nsIn K d z = some r ∧ Q (.bl r.isSome) H) ta (tC (.ref d))) G (PB r.isSome) :=
  g_op ha g_c fun x y H0 H sm hx hy Q k => ⟨z, r, hx, hy, h, k _ H0 H (.refl sm) rfl⟩
theorem g_ixD {d : Addr} {es : Array DictEntry} {n : Nat} {z : Str} {v : V} {u : Value} (D : KDict K w d es n) (hb : EvG tb G (PS z)) (h : PySem.W.nsIn K d z = some (some u)) (r : RelV v u) : EvG (tOp (rIxD K w) (tC (.ref d)) tb) G (PV v) :=
  g_op g_c hb fun x y H0 H sm hx hy Q k => ⟨d, z, v, hx, hy, ⟨es, n, u, D.at_, D.lit, h, r⟩, k _ H0 H (.refl sm) rfl⟩
theorem Tx.one (T : Tx w K mg) {q : Str × He.Dv} (hq : q ∈ vone) : ∃ u, PySem.W.nsIn K (He.ga K "ONE") q.1 = some (some u) ∧ RelV (q.2.v K) u := by
  have e := T.ex
  unfold exB at e
  simp only [Bool.and_eq_true] at e
  exact He.valsB_ok e.2.2.2.2.2.2.2.2.2.2.1 hq
theorem Tx.two (T : Tx w K mg) {q : Str × He.Dv} (hq : q ∈ vtwo) : ∃ u, PySem.W.nsIn K (He.ga K "TWO") q.1 = some (some u) ∧ RelV (q.2.v K) u := by
  have e := T.ex
  unfold exB at e
  simp only [Bool.and_eq_true] at e
  exact He.valsB_ok e.2.2.2.2.2.2.2.2.2.2.2.1 hq
theorem Tx.none_ (T : Tx w K mg) : PySem.W.nsIn K (He.ga K "ONE") "set drift" = some none ∧ PySem.W.nsIn K (He.ga K "ONE") "add burn" = some none ∧ PySem.W.nsIn K (He.ga K "ONE") "drop burn" = some none ∧ PySem.W.nsIn K (He.ga K "ONE") "add sighting" = some none ∧ PySem.W.nsIn K (He.ga K "ONE") "drop sighting" = some none := by
  have e := T.ex
  unfold exB at e
  simp only [Bool.and_eq_true] at e
  obtain ⟨⟨⟨⟨h1, h2⟩, h3⟩, h4⟩, h5⟩ := e.2.2.2.2.2.2.2.2.2.2.2.2
  exact ⟨He.eqO_ok h1, He.eqO_ok h2, He.eqO_ok h3, He.eqO_ok h4, He.eqO_ok h5⟩
abbrev okAp (ct : Ct) (e : Ed) : Prop := okCt 100 ct ∧ okEd e
/-- an edit of the first table, of the second -/
def OneX (P : Program) (w : World) (K : PySem.W.Frag) (mg : Str → Option Value) (base : Heap) (ct : Ct) (e : Ed) : Prop := ∃ (z : Str) (f : Addr) (d1 : Dn), e.ds K = [PS z, d1] ∧ (∃ u, PySem.W.nsIn K (He.ga K "ONE") z = some (some u) ∧ RelV (.ref f) u) ∧
  ∀ {G : Cn} {ta tb : TE} {i : Nat} {E : XK}, G[i]? = some (some (PV (.ref f))) → EvG ta G (PCt K ct) → EvG tb G d1 → EvX K (tCallH P w K mg base 7 i E (tCons ta (tCons tb tNil))) G (resC K (applyM ct e)) E
def TwoX (P : Program) (w : World) (K : PySem.W.Frag) (mg : Str → Option Value) (base : Heap) (ct : Ct) (e : Ed) : Prop := ∃ (z n : Str) (f : Addr) (d1 : Dn), e.ds K = [PS z, PS n, d1] ∧ PySem.W.nsIn K (He.ga K "ONE") z = some none ∧ (∃ u, PySem.W.nsIn K (He.ga K "TWO") z = some (some u) ∧ RelV (.ref f) u) ∧
  ∀ {G : Cn} {ta tb tc : TE} {i : Nat} {E : XK}, G[i]? = some (some (PV (.ref f))) → EvG ta G (PCt K ct) → EvG tb G (PS n) → EvG tc G d1 → EvX K (tCallH P w K mg base 7 i E (tCons ta (tCons tb (tCons tc tNil)))) G (resC K (applyM ct e)) E
theorem ed_x (T : Tx w K mg) (N1 : XNP P w K mg base "NoSuchCraft") (N2 : XNP P w K mg base "NoSuchSite") {ct : Ct} {e : Ed} (h : okAp ct e) : OneX P w K mg base ct e ∨ TwoX P w K mg base ct e := by
  obtain ⟨h1, h2⟩ := h
  have n := T.none_
  cases e with
  | stride x => exact .inl ⟨_, He.ga K "set_stride", _, rfl, T.one (q := ("set stride", .glo "set_stride")) (List.mem_of_getElem? (i := 0) rfl), fun hi ha hb => g_callHF (args := fun a : Ct × Int => [PCt K a.1, PI a.2]) (res := fun a : Ct × Int => PCt K { a.1 with stride := a.2 }) (ct, x) hi (((d_set_stride T).held T.g_set_stride).mono (by decide)) ⟨h2, h1.sf.2⟩ (a_cons ha (a_cons hb a_nil))⟩
  | fine x => exact .inl ⟨_, He.ga K "set_fineness", _, rfl, T.one (q := ("set fineness", .glo "set_fineness")) (List.mem_of_getElem? (i := 1) rfl), fun hi ha hb => g_callHF (args := fun a : Ct × Int => [PCt K a.1, PI a.2]) (res := fun a : Ct × Int => PCt K { a.1 with fine := a.2 }) (ct, x) hi (((d_set_fineness T).held T.g_set_fineness).mono (by decide)) ⟨h1.sf.1, h2⟩ (a_cons ha (a_cons hb a_nil))⟩
  | addC x => exact .inl ⟨_, He.ga K "add_craft", _, rfl, T.one (q := ("add craft", .glo "add_craft")) (List.mem_of_getElem? (i := 2) rfl), fun hi ha hb => g_callHX (args := fun a : Ct × Cr => [PCt K a.1, PCr K a.2]) (res := fun a : Ct × Cr => resC K (K9.addC a.1 a.2)) (ct, x) hi (((d_add_craft T).held T.g_add_craft).mono (by decide)) ⟨h1, h2⟩ (a_cons ha (a_cons hb a_nil))⟩
  | dropC x => exact .inl ⟨_, He.ga K "drop_craft", _, rfl, T.one (q := ("drop craft", .glo "drop_craft")) (List.mem_of_getElem? (i := 3) rfl), fun hi ha hb => g_callHX (args := fun a : Ct × Str => [PCt K a.1, PS a.2]) (res := fun a : Ct × Str => resC K (K9.dropC a.1 a.2)) (ct, x) hi (((d_drop_craft T N1).held T.g_drop_craft).mono (by decide)) h1 (a_cons ha (a_cons hb a_nil))⟩
  | addS x => exact .inl ⟨_, He.ga K "add_site", _, rfl, T.one (q := ("add site", .glo "add_site")) (List.mem_of_getElem? (i := 4) rfl), fun hi ha hb => g_callHX (args := fun a : Ct × Si => [PCt K a.1, PSi K a.2]) (res := fun a : Ct × Si => resC K (K9.addS a.1 a.2)) (ct, x) hi (((d_add_site T).held T.g_add_site).mono (by decide)) h1 (a_cons ha (a_cons hb a_nil))⟩
  | dropS x => exact .inl ⟨_, He.ga K "drop_site", _, rfl, T.one (q := ("drop site", .glo "drop_site")) (List.mem_of_getElem? (i := 5) rfl), fun hi ha hb => g_callHX (args := fun a : Ct × Str => [PCt K a.1, PS a.2]) (res := fun a : Ct × Str => resC K (K9.dropS a.1 a.2)) (ct, x) hi (((d_drop_site T N2).held T.g_drop_site).mono (by decide)) h1 (a_cons ha (a_cons hb a_nil))⟩
  | drift x y => exact .inr ⟨_, x, He.ga K "set_drift", _, rfl, n.1, T.two (q := ("set drift", .glo "set_drift")) (List.mem_of_getElem? (i := 0) rfl), fun hi ha hb hc => g_callHX (args := fun a : Ct × Str × Int => [PCt K a.1, PS a.2.1, PI a.2.2]) (res := fun a : Ct × Str × Int => resC K (setD a.1 a.2.1 a.2.2)) (ct, x, y) hi (((d_set_drift T N1).held T.g_set_drift).mono (by decide)) ⟨h1, h2⟩ (a_cons ha (a_cons hb (a_cons hc a_nil)))⟩
  | addB x y => exact .inr ⟨_, x, He.ga K "add_burn", _, rfl, n.2.1, T.two (q := ("add burn", .glo "add_burn")) (List.mem_of_getElem? (i := 1) rfl), fun hi ha hb hc => g_callHX (args := fun a : Ct × Str × Bu => [PCt K a.1, PS a.2.1, PBu K a.2.2]) (res := fun a : Ct × Str × Bu => resC K (addBu a.1 a.2.1 a.2.2)) (ct, x, y) hi (((d_add_burn T N1).held T.g_add_burn).mono (by decide)) h1 (a_cons ha (a_cons hb (a_cons hc a_nil)))⟩
  | dropB x y => exact .inr ⟨_, x, He.ga K "drop_burn", _, rfl, n.2.2.1, T.two (q := ("drop burn", .glo "drop_burn")) (List.mem_of_getElem? (i := 2) rfl), fun hi ha hb hc => g_callHX (args := fun a : Ct × Str × Int => [PCt K a.1, PS a.2.1, PI a.2.2]) (res := fun a : Ct × Str × Int => resC K (K9.dropB a.1 a.2.1 a.2.2)) (ct, x, y) hi (((d_drop_burn T N1).held T.g_drop_burn).mono (by decide)) h1 (a_cons ha (a_cons hb (a_cons hc a_nil)))⟩
  | addG x y => exact .inr ⟨_, x, He.ga K "add_sighting", _, rfl, n.2.2.2.1, T.two (q := ("add sighting", .glo "add_sighting")) (List.mem_of_getElem? (i := 3) rfl), fun hi ha hb hc => g_callHX (args := fun a : Ct × Str × Sg => [PCt K a.1, PS a.2.1, PSg K a.2.2]) (res := fun a : Ct × Str × Sg => resC K (K9.addG a.1 a.2.1 a.2.2)) (ct, x, y) hi (((d_add_sighting T N1).held T.g_add_sighting).mono (by decide)) h1 (a_cons ha (a_cons hb (a_cons hc a_nil)))⟩
  | dropG x y => exact .inr ⟨_, x, He.ga K "drop_sighting", _, rfl, n.2.2.2.2, T.two (q := ("drop sighting", .glo "drop_sighting")) (List.mem_of_getElem? (i := 4) rfl), fun hi ha hb hc => g_callHX (args := fun a : Ct × Str × Int => [PCt K a.1, PS a.2.1, PI a.2.2]) (res := fun a : Ct × Str × Int => resC K (K9.dropG a.1 a.2.1 a.2.2)) (ct, x, y) hi (((d_drop_sighting T N1).held T.g_drop_sighting).mono (by decide)) h1 (a_cons ha (a_cons hb (a_cons hc a_nil)))⟩
abbrev PEd (K : PySem.W.Frag) (e : Ed) : Dn := PT K (e.ds K)
abbrev sp_apply_edit (K : PySem.W.Frag) : Sp := spX K (fun a : Ct × Ed => [PCt K a.1, PEd K a.2]) (fun a => okAp a.1 a.2) fun a => resC K (applyM a.1 a.2)
theorem g_apply_edit {ct : Ct} {e : Ed} (ha : EvG ta G (PCt K ct)) (hb : EvG tb G (PEd K e)) (h : okAp ct e) : EvX K (tCall (sp_apply_edit K) [] E (tCons ta (tCons tb tNil))) G (resC K (applyM ct e)) E := g_callX (args := fun a : Ct × Ed => [PCt K a.1, PEd K a.2]) (res := fun a : Ct × Ed => resC K (applyM a.1 a.2)) (ct, e) h (a_cons ha (a_cons hb a_nil))
theorem d_apply_edit (T : Tx w K mg) (N1 : XNP P w K mg base "NoSuchCraft") (N2 : XNP P w K mg base "NoSuchSite") : DfX P w K mg base 8 "apply_edit" ["contents", "edit"] (sp_apply_edit K) := by
  obtain ⟨es1, n1, D_ONE⟩ := T.c.tab 0
  obtain ⟨es2, n2, D_TWO⟩ := T.c.tab 1
  refine df_X T.F_apply_edit T.g_apply_edit T.B_apply_edit sc_apply_edit (fun _ => rfl) (fun a => [some (PCt K a.1), some (PEd K a.2), none, none, none]) (fun _ => rfl) fun cdv A' outer s H E hr => ⟨_, (pss_cons (ps_set (i := 2) sc_apply_edit.nd rfl (by first | exact Or.inl rfl | exact Or.inr rfl) pe_str)
    (pss_cons (ps_if (pt_cmpR op_gt (pe_callB call_len_seq rfl T.n_len PySem.boot_len (pa_cons (pv 1) pa_nil)) pe_int (nomark _)) (pss_one (ps_set (i := 2) sc_apply_edit.nd rfl (by first | exact Or.inl rfl | exact Or.inr rfl) (pe_ix ix_tup (pv 1) pe_int (fun _ _ => rfl)))) pss_nil)
    (pss_cons (ps_if (PW.pt (pw_and (pt_cmpR (op_in_kd D_ONE) (pv 2) (pe_glob (v := .ref _) rfl T.g_ONE rfl) rfl) (pw_and1 (pt_cmpR op_eq (pe_callB call_len_seq rfl T.n_len PySem.boot_len (pa_cons (pv 1) pa_nil)) pe_int (nomark _))))) (pss_cons (ps_set (i := 3) sc_apply_edit.nd rfl (by first | exact Or.inl rfl | exact Or.inr rfl) (pe_ix ix_kdict (pe_glob (v := .ref _) rfl T.g_ONE rfl) (pv 2) (fun _ _ => rfl)))
    (pss_one (ps_ret (pe_callH hr (i := 3) (passX rfl rfl rfl rfl) (pa_cons (pv 0) (pa_cons (pe_ix ix_tup (pv 1) pe_int (fun _ _ => rfl)) pa_nil)))))) pss_nil)
    (pss_cons (ps_if (PW.pt (pw_and (pt_cmpR (op_in_kd D_TWO) (pv 2) (pe_glob (v := .ref _) rfl T.g_TWO rfl) rfl) (pw_and1 (pt_cmpR op_eq (pe_callB call_len_seq rfl T.n_len PySem.boot_len (pa_cons (pv 1) pa_nil)) pe_int (nomark _))))) (pss_cons (ps_set (i := 4) sc_apply_edit.nd rfl (by first | exact Or.inl rfl | exact Or.inr rfl) (pe_ix ix_kdict (pe_glob (v := .ref _) rfl T.g_TWO rfl) (pv 2) (fun _ _ => rfl)))
    (pss_one (ps_ret (pe_callH hr (i := 4) (passX rfl rfl rfl rfl) (pa_cons (pv 0) (pa_cons (pe_ix ix_tup (pv 1) pe_int (fun _ _ => rfl)) (pa_cons (pe_ix ix_tup (pv 1) pe_int (fun _ _ => rfl)) pa_nil))))))) pss_nil)
    (pss_one ps_never))))), ?_⟩
  intro a pre B0 z D ok kr ke
  obtain ⟨ct, e⟩ := a
  refine sq_asg ok g_c fun z1 H1 ok1 => ?_
  rcases ed_x T N1 N2 pre with ⟨y, f, d1, eq, ⟨u, hu, ru⟩, X⟩ | ⟨y, n, f, d1, eq, hn, ⟨u, hu, ru⟩, X⟩
  · have ok1 : OkS B0 H [some (PCt K ct), some (PT K (e.ds K)), some (PS ""), none, none] none z1 H1 := ok1
    rw [eq] at ok1
    refine sq_if ok1 (t_test (g_I0 (g_cb (a_cons (g_var rfl) a_nil) r_lenT) g_c)) (fun hb H2 ok2 => ?_) fun hb => nomatch hb
    refine st_asg ok2 (g_ixT0 (g_var rfl)) fun z3 H3 ok3 => ?_
    refine sq_if ok3 (t_and (t_test (g_inD (g_var rfl) hu)) (fun _ => t_test (g_op (g_cb (a_cons (g_var rfl) a_nil) r_lenT) g_c (r_eq rfl)))) (fun hb H4 ok4 => ?_) fun hb => ?_
    · refine sq_asg ok4 (g_ixD D_ONE (g_var rfl) hu ru) fun z5 H5 ok5 => ?_
      exact st_retX ok5 (X rfl (g_var rfl) (g_ixT1 (g_var rfl))) ke kr
    · cases hb
  · have ok1 : OkS B0 H [some (PCt K ct), some (PT K (e.ds K)), some (PS ""), none, none] none z1 H1 := ok1
    rw [eq] at ok1
    refine sq_if ok1 (t_test (g_I0 (g_cb (a_cons (g_var rfl) a_nil) r_lenT) g_c)) (fun hb H2 ok2 => ?_) fun hb => nomatch hb
    refine st_asg ok2 (g_ixT0 (g_var rfl)) fun z3 H3 ok3 => ?_
    refine sq_if0 (b := false) ok3 (EvT.is (t_and (k := false) (t_test (g_inD (g_var rfl) hn)) (fun h => nomatch h)) rfl) (fun hb => nomatch hb) fun hb H4 ok4 => ?_
    refine sq_if ok4 (t_and (t_test (g_inD (g_var rfl) hu)) (fun _ => t_test (g_op (g_cb (a_cons (g_var rfl) a_nil) r_lenT) g_c (r_eq rfl)))) (fun hb H4 ok4 => ?_) fun hb => ?_
    · refine sq_asg ok4 (g_ixD D_TWO (g_var rfl) hu ru) fun z5 H5 ok5 => ?_
      exact st_retX ok5 (X rfl (g_var rfl) (g_ixT1 (g_var rfl)) (g_ixT2 (g_var rfl))) ke kr
    · cases hb
end
end K9
set_option Elab.async false
set_option linter.all false
set_option maxRecDepth 100000
set_option maxHeartbeats 4000000
/-! K9D9: differences. -/
namespace K9
open PySem PySem.Spec PyProof.Rows L2
/-- a tick or None -/
def PTick : Dn := ⟨fun _ v => v = .non ∨ ∃ i : Int, v = .int i, fun _ h => h⟩
section
variable {K : PySem.W.Frag} {G : Cn} {ta tb tc td te : TE} {B0 B : Hp} {W : Option Ow} {s : L2.St} {H : Hp} {D : Ends}
theorem tick_i {j : Int} {H : Hp} {v : V} (h : (PI j).holds H v) : PTick.holds H v := .inr ⟨j, h⟩
theorem tick_n {H : Hp} {v : V} (h : PN.holds H v) : PTick.holds H v := .inl h
theorem OkS.tick {i : Nat} (h : OkS B0 B G W s H) (hi : G[i]? = some (some PTick)) : OkS B0 B (G.set i (some PN)) W s H ∨ ∃ n : Int, OkS B0 B (G.set i (some (PI n))) W s H := by
  obtain ⟨H0, g, sl, ow⟩ := h.ex
  obtain ⟨v, h1, h2⟩ := sl.at_ i _ hi
  have es : s.set i (some v) = s := by
    have hlt : i < s.length := (List.getElem?_eq_some_iff.mp h1).1
    have e2 := (List.getElem?_eq_some_iff.mp h1).2
    rw [← e2]
    exact List.set_getElem_self hlt
  rcases h2 with h2 | ⟨n, h2⟩
  · left
    have q := sl.set (i := i) (d := PN) (show PN.holds H0 v from h2)
    rw [es] at q
    exact ⟨H0, g, q, ow⟩
  · right
    have q := sl.set (i := i) (d := PI n) (show (PI n).holds H0 v from h2)
    rw [es] at q
    exact ⟨n, H0, g, q, ow⟩
theorem r_minT {ns : List Int} (hn : 0 < ns.length) : RAG (rMin K) [PL (ns.map fun i => PI i)] PTick := fun xs H0 H sm h Q k => by
  obtain ⟨v, rfl, p, vs, rfl, hl, ha⟩ := all1 h
  have e := pints ha
  subst e
  exact ⟨p, ns, rfl, SqL.of (sm _ _ hl), hn, fun x hx hy => k _ H0 H (.refl sm) (.inr ⟨x, rfl⟩)⟩
/-- is it empty -/
theorem t_truL {ds : List Dn} (ha : EvG ta G (PL ds)) : EvT (fun σ H Q => ta σ H fun x H' => ∃ k, TruV K x H' k ∧ Q k H') G (!ds.isEmpty) := fun s H0 H sm sl Q q =>
  ha s H0 H sm sl _ fun v H1 H' g ⟨a, vs, e, hl, hv⟩ => by
    subst e
    refine ⟨!vs.isEmpty, .inl ⟨vs, SqL.of (g.b _ _ hl), rfl⟩, ?_⟩
    have : vs.isEmpty = ds.isEmpty := by
      have := hv.len
      cases vs <;> cases ds <;> first | rfl | simp at this
    rw [this]
    exact q H1 H' g
/-- for .. in zip of two tuples of one length -/
theorem st_forZx {A : Type} {g : TG} {t : TA} {tb : TS} {ds es : List Dn} (hl : ds.length = es.length) (R : Nat → A → Prop) (Gs Gt : Nat → A → Cn) (Ws : Nat → A → Option Ow) (x0 : A) (r0 : R 0 x0) (h : OkS B0 B (Gs 0 x0) (Ws 0 x0) s H) (ev : EvA t (Gs 0 x0) [PT K ds, PT K es])
    (tg : ∀ i d e x, ds[i]? = some d → es[i]? = some e → R i x → TgG g (Gs i x) (PT K [d, e]) (Gt i x))
    (body : ∀ C0 C, (∀ {G' W' s' H'}, OkS C0 C G' W' s' H' → OkS B0 B G' W' s' H') → ∀ i d e x, ds[i]? = some d → es[i]? = some e → R i x → ∀ s' H', OkS C0 C (Gt i x) (Ws i x) s' H' → ∀ N : L2.St → Hp → Prop, (∀ s2 H2 y, R (i + 1) y → OkS C0 C (Gs (i + 1) y) (Ws (i + 1) y) s2 H2 → N s2 H2) → tb { D with nx := N, ct := N, bk := D.nx } s' H')
    (k : ∀ x s' H', R ds.length x → OkS B0 B (Gs ds.length x) (Ws ds.length x) s' H' → D.nx s' H') : tFor (RZ.iZipA K t) g tb D s H := by
  obtain ⟨H0, g1, sl, ow⟩ := h.ex
  refine ev s H0 H g1.b sl _ fun vs H1 H' gr hvs => ?_
  obtain ⟨u, v, rfl, ⟨a, us, rfl, ha, hu⟩, b, ws, rfl, hb, hw⟩ := all2 hvs
  obtain ⟨ok, gb⟩ := OkS.base (g1.trans gr) (sl.mono gr.a) (ow.grow gr)
  have up : ∀ {G' W' s' H2}, OkS H1 (offW (Ws 0 x0) H') G' W' s' H2 → OkS B0 B G' W' s' H2 := fun q => OkS.up gb q
  have hlen : us.length = ws.length := by rw [← hu.len, ← hw.len]; exact hl
  refine ⟨a, b, us, ws, rfl, .inr ⟨same_t gr.b ha, same_t gr.b hb, RZ.for_zipT hlen (fun i s' H2 => ∃ x, R i x ∧ OkS H1 (offW (Ws 0 x0) H') (Gs i x) (Ws i x) s' H2) ⟨x0, r0, ok⟩ (fun i s' H2 ⟨x, r, p⟩ => ?_) (fun i x y T s' H2 hx hy ⟨z, r, p⟩ hT => ?_) (fun s' H2 ⟨x, r, p⟩ => ?_)⟩⟩
  · obtain ⟨H3, g2, _⟩ := p.ex
    exact ⟨same_t (g2.a.trans g2.b) ha, same_t (g2.a.trans g2.b) hb⟩
  · obtain ⟨d, hd, hdx⟩ := hu.at_ hx
    obtain ⟨e, he, hey⟩ := hw.at_ hy
    obtain ⟨H3, g2, sl2, ow2⟩ := p.ex
    have gn := Grow.new (o := .tup [x, y]) g2.b hT
    have sn : Same H3 (upd H3 T (.tup [x, y])) := gn.a
    refine tg i d e z hd he r s' _ _ (.ref T) gn.b (sl2.mono sn) ⟨T, [x, y], rfl, SqT.of upd_same, (d.mono (g2.a.trans sn) hdx), (e.mono (g2.a.trans sn) hey), trivial⟩ _ fun s'' sl'' => ?_
    exact body H1 (offW (Ws 0 x0) H') up i d e z hd he r s'' _ ⟨_, g2.trans gn, sl'', ow2.grow gn⟩ _ fun s2 H4 y r2 ok2 => ⟨y, r2, ok2⟩
  · rw [← hu.len] at r p
    exact k x s' H2 r (up p)
end
/-! ### the mirror -/
abbrev rulesD (a b : Ct) : Bool := (!PyData.eqv (dBd a.body) (dBd b.body)) || ((!decide (a.stride = b.stride)) || (!decide (a.fine = b.fine)))
theorem rulesD_of {a b : Ct} (h : rulesD a b = false) : a.body = b.body ∧ a.stride = b.stride ∧ a.fine = b.fine := by
  unfold rulesD at h
  obtain ⟨h1, h2⟩ := Bool.or_eq_false_iff.mp h
  obtain ⟨h3, h4⟩ := Bool.or_eq_false_iff.mp h2
  refine ⟨eBd_of ?_, ?_, ?_⟩
  · cases q : PyData.eqv (dBd a.body) (dBd b.body) with
    | true => rfl
    | false =>
      rw [q] at h1
      cases h1
  · by_cases q : a.stride = b.stride
    · exact q
    · rw [decide_eq_false q] at h3
      cases h3
  · by_cases q : a.fine = b.fine
    · exact q
    · rw [decide_eq_false q] at h4
      cases h4
def tchB (a b : Ct) (c : Cr) : Bool := match findC a.crafts c.name with
  | none => true
  | some old => rulesD a b || !PyData.eqv (dCr old) (dCr c)
def touchedN (a b : Ct) : List Str := (b.crafts.filter (tchB a b)).map (·.name)
def goneC (a b : Ct) : List Str := (a.crafts.filter fun c => (findC b.crafts c.name).isNone).map (·.name)
abbrev PTch (K : PySem.W.Frag) (n : Str) : Dn := PT K [PS n, PTick]
abbrev PTold (K : PySem.W.Frag) (a b : Ct) : Dn := PT K [PL ((touchedN a b).map (PTch K)), PL ((goneC a b).map fun n => PS n), PAny, PAny]
section
variable {P : Program} {w : World} {K : PySem.W.Frag} {mg : Str → Option Value} {base : Heap} {G : Cn} {ta tb tc td te : TE} {E : XK}
/-! #### entries, first_difference, touched_at -/
structure RE where
  t : Int
  d : Dn
  p : PyData
abbrev PRe (K : PySem.W.Frag) (r : RE) : Dn := PT K [PI r.t, r.d]
structure okRe (K : PySem.W.Frag) (r : RE) : Prop where
  d : DpG K r.d r.p
  s : SeqAt.shaped r.p = true
abbrev reB (K : PySem.W.Frag) (b : Bu) : RE := ⟨b.b, PBuT K b, dBu b⟩
abbrev reS (K : PySem.W.Frag) (s : Sg) : RE := ⟨s.t, PSgT K s, dSg s⟩
abbrev PEn (K : PySem.W.Frag) (c : Cr) : Dn := PT K [PL (c.burns.map fun b => PRe K (reB K b)), PL (c.sights.map fun s => PRe K (reS K s))]
abbrev sp_entries (K : PySem.W.Frag) : Sp := spF (fun c : Cr => [PCr K c]) crS (PEn K)
theorem g_entries {c : Cr} (ha : EvG ta G (PCr K c)) (h : crS c) : EvG (tCall (sp_entries K) [] E (tCons ta tNil)) G (PEn K c) := g_callF (args := fun c : Cr => [PCr K c]) c h (a_cons ha a_nil)
theorem d_entries (T : Tx w K mg) : Df P w K mg base CX0 1 "entries" ["craft"] (sp_entries K) := by
  refine df_F T.F_entries T.g_entries T.B_entries sc_entries (fun _ => rfl) (fun c => [some (PCr K c), none, none, none, none]) (fun _ => rfl) fun cdv A' outer s H E hr => ⟨_, (pss_cons (ps_setLc (i := 2) (own := [("burn", 1)]) (g := (gName 1)) rfl sc_entries.nd rfl rfl (sw_true rfl rfl rfl (by decide +kernel)) (pi_tup (pe_fld (pv 0) rfl)) (blkOk_by (N := N_entries) (sc := defScope S_entries) (by decide +kernel)) (fun _ _ _ _ _ => (pg_name (i := 1) sc_entries.nd rfl (Or.inl rfl))) (fun _ _ _ _ _ => pts_nil) (fun _ _ _ _ _ => (pe_tup (pa_cons (pe_fldK (K := K) (pv 1) rfl) (pa_cons (pe_tup (pa_cons (pe_fldK (K := K) (pv 1) rfl) (pa_cons (pe_fldK (K := K) (pv 1) rfl) (pa_cons (pe_fldK (K := K) (pv 1) rfl) pa_nil)))) pa_nil)))))
    (pss_cons (ps_setLc (i := 4) (own := [("sighting", 3)]) (g := (gName 3)) rfl sc_entries.nd rfl rfl (sw_true rfl rfl rfl (by decide +kernel)) (pi_tup (pe_fld (pv 0) rfl)) (blkOk_by (N := N_entries) (sc := defScope S_entries) (by decide +kernel)) (fun _ _ _ _ _ => (pg_name (i := 3) sc_entries.nd rfl (Or.inl rfl))) (fun _ _ _ _ _ => pts_nil) (fun _ _ _ _ _ => (pe_tup (pa_cons (pe_fldK (K := K) (pv 3) rfl) (pa_cons (pe_tup (pa_cons (pe_fldK (K := K) (pv 3) rfl) (pa_cons (pe_fldK (K := K) (pv 3) rfl) pa_nil))) pa_nil)))))
    (pss_one (ps_ret (pe_tup (pa_cons (pv 2) (pa_cons (pv 4) pa_nil))))))), ?_⟩
  intro c pre B0 z D ok kr kn
  refine sq_asg ok (g_lcT0 (vs := [1]) c.burns (PBu K) (fun b => PRe K (reB K b)) (fun b => [some (PCr K c), some (PBu K b), none, none, none]) (g_fld (g_var rfl) T.cl_Craft T.na_Craft_burns rfl) (by have := pre.1; omega) (fun _ _ => tc_name) (fun b _ => g_tup (a_cons (g_fld (g_var rfl) T.cl_Burn T.na_Burn_begin rfl) (a_cons (g_tup (a_cons (g_fld (g_var rfl) T.cl_Burn T.na_Burn_begin rfl) (a_cons (g_fld (g_var rfl) T.cl_Burn T.na_Burn_end rfl) (a_cons (g_fld (g_var rfl) T.cl_Burn T.na_Burn_push rfl) a_nil)))) a_nil)))) fun z1 H1 ok1 => ?_
  refine sq_asg ok1 (g_lcT0 (vs := [3]) c.sights (PSg K) (fun s => PRe K (reS K s)) (fun b => [some (PCr K c), none, some (PL (c.burns.map fun b => PRe K (reB K b))), some (PSg K b), none]) (g_fld (g_var rfl) T.cl_Craft T.na_Craft_sightings rfl) (by have := pre.2; omega) (fun _ _ => tc_name) (fun b _ => g_tup (a_cons (g_fld (g_var rfl) T.cl_Sighting T.na_Sighting_at rfl) (a_cons (g_tup (a_cons (g_fld (g_var rfl) T.cl_Sighting T.na_Sighting_at rfl) (a_cons (g_fld (g_var rfl) T.cl_Sighting T.na_Sighting_place rfl) a_nil))) a_nil)))) fun z2 H2 ok2 => ?_
  exact st_ret ok2 (g_tup (a_cons (g_var rfl) (a_cons (g_var rfl) a_nil))) kr
abbrev PREs (K : PySem.W.Frag) (rs : List RE) : Dn := PL (rs.map (PRe K))
abbrev sp_first_difference (K : PySem.W.Frag) : Sp := spF (fun a : List RE × List RE => [PREs K a.1, PREs K a.2]) (fun a => ((∀ r ∈ a.1, okRe K r) ∧ ∀ r ∈ a.2, okRe K r) ∧ a.1.length ≤ 1000 ∧ a.2.length ≤ 1000) fun _ => PTick
theorem g_first_difference {rs os : List RE} (ha : EvG ta G (PREs K rs)) (hb : EvG tb G (PREs K os)) (h : ((∀ r ∈ rs, okRe K r) ∧ ∀ r ∈ os, okRe K r) ∧ rs.length ≤ 1000 ∧ os.length ≤ 1000) : EvG (tCall (sp_first_difference K) [] E (tCons ta (tCons tb tNil))) G PTick := g_callF (args := fun a : List RE × List RE => [PREs K a.1, PREs K a.2]) (rs, os) h (a_cons ha (a_cons hb a_nil))
theorem d_first_difference (T : Tx w K mg) : Df P w K mg base CX0 1 "first_difference" ["rows", "others"] (sp_first_difference K) := by
  refine df_F T.F_first_difference T.g_first_difference T.B_first_difference sc_first_difference (fun _ => rfl) (fun a => [some (PREs K a.1), some (PREs K a.2), none]) (fun _ => rfl) fun cdv A' outer s H E hr => ⟨_, (pss_cons (ps_for PassesOwn.never rfl (pi_range1 rfl T.n_range (pa_cons (pe_callB (call_max2 rfl) rfl T.n_max (by decide +kernel) (pa_cons (pe_callB call_len_seq rfl T.n_len PySem.boot_len (pa_cons (pv 0) pa_nil)) (pa_cons (pe_callB call_len_seq rfl T.n_len PySem.boot_len (pa_cons (pv 1) pa_nil)) pa_nil))) pa_nil)) (pg_name (i := 2) sc_first_difference.nd rfl (by first | exact Or.inl rfl | exact Or.inr rfl)) (pss_cons (ps_if (pt_cmpR op_ge (pv 2) (pe_callB call_len_seq rfl T.n_len PySem.boot_len (pa_cons (pv 0) pa_nil)) (nomark _)) (pss_one (ps_ret (pe_ix ix_tup (pe_ix ix_list (pv 1) (pv 2) (fun _ _ => rfl)) pe_int (fun _ _ => rfl)))) pss_nil)
    (pss_cons (ps_if (pt_cmpR op_ge (pv 2) (pe_callB call_len_seq rfl T.n_len PySem.boot_len (pa_cons (pv 1) pa_nil)) (nomark _)) (pss_one (ps_ret (pe_ix ix_tup (pe_ix ix_list (pv 0) (pv 2) (fun _ _ => rfl)) pe_int (fun _ _ => rfl)))) pss_nil)
    (pss_one (ps_if (pt_cmpR (op_neD hr.units) (pe_ix ix_tup (pe_ix ix_list (pv 0) (pv 2) (fun _ _ => rfl)) pe_int (fun _ _ => rfl)) (pe_ix ix_tup (pe_ix ix_list (pv 1) (pv 2) (fun _ _ => rfl)) pe_int (fun _ _ => rfl)) (nomark _)) (pss_one (ps_ret (pe_callB (call_min2 rfl) rfl T.n_min (by decide +kernel) (pa_cons (pe_ix ix_tup (pe_ix ix_list (pv 0) (pv 2) (fun _ _ => rfl)) pe_int (fun _ _ => rfl)) (pa_cons (pe_ix ix_tup (pe_ix ix_list (pv 1) (pv 2) (fun _ _ => rfl)) pe_int (fun _ _ => rfl)) pa_nil))))) pss_nil)))))
    (pss_one (ps_ret pe_non))), ?_⟩
  intro a pre B0 z D ok kr kn
  obtain ⟨rs, os⟩ := a
  obtain ⟨⟨p1, p2⟩, p3, p4⟩ := pre
  have p1 : ∀ r ∈ rs, okRe K r := p1
  have p2 : ∀ r ∈ os, okRe K r := p2
  have p3 : rs.length ≤ 1000 := p3
  have p4 : os.length ≤ 1000 := p4
  have l1 : (rs.map (PRe K)).length = rs.length := List.length_map ..
  have l2 : (os.map (PRe K)).length = os.length := List.length_map ..
  have hmx : mx ((rs.map (PRe K)).length : Int) ((os.map (PRe K)).length : Int) ≤ 1000 := mx_le (by omega) (by omega)
  have hmx0 : 0 ≤ mx ((rs.map (PRe K)).length : Int) ((os.map (PRe K)).length : Int) := Int.le_trans (by omega) (mx_l _ _)
  have hcase : ∀ i : Nat, (i : Int) < mx ((rs.map (PRe K)).length : Int) ((os.map (PRe K)).length : Int) → i < rs.length ∨ i < os.length := fun i h => by
    unfold mx at h
    split at h <;> omega
  refine sq (st_forR (n := mx ((rs.map (PRe K)).length : Int) ((os.map (PRe K)).length : Int)) ok (a_cons (g_cb (a_cons (g_cb (a_cons (g_var rfl) a_nil) r_lenL) (a_cons (g_cb (a_cons (g_var rfl) a_nil) r_lenL) a_nil)) r_max2) a_nil) rfl ⟨by omega, by omega⟩ (fun _ => [some (PREs K rs), some (PREs K os), none]) (fun i => [some (PREs K rs), some (PREs K os), some (PI (0 + (i : Int)))]) (fun _ => none) rfl rfl (fun i hi => tg_name) (fun C0 C up i hi s' H' ok1 => ?_) (fun s' H' ok1 => ?_))
  · have hi2 := hcase i (by omega)
    have gr : ∀ {r : RE}, rs[i]? = some r → (rs.map (PRe K))[i]? = some (PRe K r) := fun e => by rw [List.getElem?_map, e]; rfl
    have go : ∀ {r : RE}, os[i]? = some r → (os.map (PRe K))[i]? = some (PRe K r) := fun e => by rw [List.getElem?_map, e]; rfl
    refine sq_if0 ok1 (t_test (g_I0 (g_var rfl) (g_cb (a_cons (g_var rfl) a_nil) r_lenL))) (fun hb H2 ok2 => ?_) fun hb H2 ok2 => ?_
    · have hb : ((rs.map (PRe K)).length : Int) ≤ 0 + (i : Int) := of_decide_eq_true hb
      have ho : i < os.length := by omega
      exact st_ret (up ok2) (EvG.imp (g_ixT0 (g_ixL i (g_var rfl) (g_var rfl) (by omega) (go (List.getElem?_eq_getElem ho)))) fun _ _ => tick_i) kr
    have hb : ¬ ((rs.map (PRe K)).length : Int) ≤ 0 + (i : Int) := of_decide_eq_false hb
    have hr1 : i < rs.length := by omega
    have er := List.getElem?_eq_getElem hr1
    refine sq_if0 ok2 (t_test (g_I0 (g_var rfl) (g_cb (a_cons (g_var rfl) a_nil) r_lenL))) (fun hc H3 ok3 => ?_) fun hc H3 ok3 => ?_
    · exact st_ret (up ok3) (EvG.imp (g_ixT0 (g_ixL i (g_var rfl) (g_var rfl) (by omega) (gr er))) fun _ _ => tick_i) kr
    have hc : ¬ ((os.map (PRe K)).length : Int) ≤ 0 + (i : Int) := of_decide_eq_false hc
    have ho1 : i < os.length := by omega
    have eo := List.getElem?_eq_getElem ho1
    have k1 := p1 _ (List.mem_of_getElem? er)
    have k2 := p2 _ (List.mem_of_getElem? eo)
    refine st_if ok3 (t_test (g_deepne (g_ixT1 (g_ixL i (g_var rfl) (g_var rfl) (by omega) (gr er))) (g_ixT1 (g_ixL i (g_var rfl) (g_var rfl) (by omega) (go eo))) k1.d k2.d k1.s k2.s)) (fun hd H4 ok4 => ?_) fun hd H4 ok4 => ok4.forget [2]
    exact st_ret (up ok4) (EvG.imp (g_cb (a_cons (g_ixT0 (g_ixL i (g_var rfl) (g_var rfl) (by omega) (gr er))) (a_cons (g_ixT0 (g_ixL i (g_var rfl) (g_var rfl) (by omega) (go eo))) a_nil)) r_min2) fun _ _ => tick_i) kr
  · exact st_ret ok1 (EvG.imp g_c fun _ _ => tick_n) kr
abbrev sp_touched_at (K : PySem.W.Frag) : Sp := spF (fun a : Cr × Cr => [PCr K a.1, PCr K a.2]) (fun a => crS a.1 ∧ crS a.2) fun _ => PTick
theorem g_touched_at {a b : Cr} (ha : EvG ta G (PCr K a)) (hb : EvG tb G (PCr K b)) (h : crS a ∧ crS b) : EvG (tCall (sp_touched_at K) [] E (tCons ta (tCons tb tNil))) G PTick := g_callF (args := fun a : Cr × Cr => [PCr K a.1, PCr K a.2]) (a, b) h (a_cons ha (a_cons hb a_nil))
theorem okRe_all {A : Type} {f : A → RE} (h : ∀ x, okRe K (f x)) (xs : List A) : ∀ r ∈ xs.map f, okRe K r := fun r hr => by
  obtain ⟨x, _, e⟩ := List.mem_map.mp hr
  rw [← e]
  exact h x
theorem d_touched_at (T : Tx w K mg) : Df P w K mg base CX0 2 "touched_at" ["before", "after"] (sp_touched_at K) := by
  have G_entries := d_entries (P := P) (base := base) T
  have G_first_difference := d_first_difference (P := P) (base := base) T
  refine df_F T.F_touched_at T.g_touched_at T.B_touched_at sc_touched_at (fun _ => rfl) (fun a => [some (PCr K a.1), some (PCr K a.2), none, none, none, none]) (fun _ => rfl) fun cdv A' outer s H E hr => ⟨_, (pss_cons (ps_if (PW.pt (pw_or (pt_cmpR op_ne (pe_fld (pv 0) rfl) (pe_fld (pv 1) rfl) (nomark _)) (pw_or1 (pt_cmpR (op_neD hr.units) (pe_fld (pv 0) rfl) (pe_fld (pv 1) rfl) (nomark _))))) (pss_one (ps_ret (pe_callB (call_min2 rfl) rfl T.n_min (by decide +kernel) (pa_cons (pe_fld (pv 0) rfl) (pa_cons (pe_fld (pv 1) rfl) pa_nil))))) pss_nil)
    (pss_cons (ps_if (PW.pt (pw_or (pt_cmpR (op_neD hr.units) (pe_fld (pv 0) rfl) (pe_fld (pv 1) rfl) (nomark _)) (pw_or1 (pt_cmpR op_ne (pe_fld (pv 0) rfl) (pe_fld (pv 1) rfl) (nomark _))))) (pss_one (ps_ret (pe_callB (call_min2 rfl) rfl T.n_min (by decide +kernel) (pa_cons (pe_fld (pv 0) rfl) (pa_cons (pe_fld (pv 1) rfl) pa_nil))))) pss_nil)
    (pss_cons (ps_set (i := 2) sc_touched_at.nd rfl (by first | exact Or.inl rfl | exact Or.inr rfl) (pe_lst pa_nil))
    (pss_cons (ps_for PassesOwn.never rfl (RZ.pi_zipA rfl T.n_zip (pa_cons (pe_d G_entries hr (pa_cons (pv 0) pa_nil)) (pa_cons (pe_d G_entries hr (pa_cons (pv 1) pa_nil)) pa_nil))) (pg_tup rfl (pgs_cons (pg_name (i := 3) sc_touched_at.nd rfl (by first | exact Or.inl rfl | exact Or.inr rfl)) (pgs_cons (pg_name (i := 4) sc_touched_at.nd rfl (by first | exact Or.inl rfl | exact Or.inr rfl)) pgs_nil))) (pss_cons (ps_set (i := 5) sc_touched_at.nd rfl (by first | exact Or.inl rfl | exact Or.inr rfl) (pe_d G_first_difference hr (pa_cons (pv 3) (pa_cons (pv 4) pa_nil))))
    (pss_one (ps_if (pt_cmpR op_notN (pv 5) pe_non (nomark _)) (pss_one (ps_expr (pe_bm PySem.F.plainAttrs_list PySem.F.slot_list_append PySem.F.type_list_append mt_append (pv 2) (pa_cons (pv 5) pa_nil)))) pss_nil))))
    (pss_cons (ps_if (pt_truth (pv 2) (by intro _; rfl)) (pss_one (ps_ret (pe_callB (cr_min rfl) rfl T.n_min (by decide +kernel) (pa_cons (pv 2) pa_nil)))) pss_nil)
    (pss_one (ps_ret pe_non))))))), ?_⟩
  intro a pre B0 z D ok kr kn
  obtain ⟨a, b⟩ := a
  obtain ⟨p1, p2⟩ := pre
  have ret : ∀ {z : L2.St} {H1 : Hp}, OkS B0 H [some (PCr K a), some (PCr K b), none, none, none, none] none z H1 → ∀ D : Ends, (∀ v H0' H', Grow B0 H H0' H' → PTick.holds H0' v → D.rt v H') → _ := fun ok2 D kr => st_ret (D := D) ok2 (EvG.imp (g_cb (a_cons (g_fld (g_var (i := 0) rfl) T.cl_Craft T.na_Craft_start rfl) (a_cons (g_fld (g_var (i := 1) rfl) T.cl_Craft T.na_Craft_start rfl) a_nil)) r_min2) fun _ _ => tick_i) kr
  refine sq_if0 ok (t_or (t_test (g_op (g_fld (g_var rfl) T.cl_Craft T.na_Craft_start rfl) (g_fld (g_var rfl) T.cl_Craft T.na_Craft_start rfl) (r_ne rfl))) (fun _ => t_test (g_deepne (g_fld (g_var rfl) T.cl_Craft T.na_Craft_place rfl) (g_fld (g_var rfl) T.cl_Craft T.na_Craft_place rfl) (dpB K _) (dpB K _) (dB_ok _) (dB_ok _)))) (fun hb H1 ok1 => ret ok1 _ kr) fun hb H1 ok1 => ?_
  refine sq_if0 ok1 (t_or (t_test (g_deepne (g_fld (g_var rfl) T.cl_Craft T.na_Craft_speed rfl) (g_fld (g_var rfl) T.cl_Craft T.na_Craft_speed rfl) (dpB K _) (dpB K _) (dB_ok _) (dB_ok _))) (fun _ => t_test (g_op (g_fld (g_var rfl) T.cl_Craft T.na_Craft_drift rfl) (g_fld (g_var rfl) T.cl_Craft T.na_Craft_drift rfl) (r_ne rfl)))) (fun hc H2 ok2 => ret ok2 _ kr) fun hc H2 ok2 => ?_
  refine sq_own ok2 a_nil fun l z3 H3 ok3 => ?_
  have e1 : PEn K a = PT K [PREs K (a.burns.map (reB K)), PREs K (a.sights.map (reS K))] := by rw [PREs, PREs, ← mapc, ← mapc]
  have e2 : PEn K b = PT K [PREs K (b.burns.map (reB K)), PREs K (b.sights.map (reS K))] := by rw [PREs, PREs, ← mapc, ← mapc]
  have okB1 : ∀ x, okRe K (reB K x) := fun x => ⟨dpBu K x, dBu_ok x⟩
  have okS1 : ∀ x, okRe K (reS K x) := fun x => ⟨dpSg K x, dSg_ok x⟩
  have lens : ∀ (i : Nat) (d e : Dn), [PREs K (a.burns.map (reB K)), PREs K (a.sights.map (reS K))][i]? = some d → [PREs K (b.burns.map (reB K)), PREs K (b.sights.map (reS K))][i]? = some e →
      ∃ rs os : List RE, d = PREs K rs ∧ e = PREs K os ∧ ((∀ r ∈ rs, okRe K r) ∧ ∀ r ∈ os, okRe K r) ∧ rs.length ≤ 1000 ∧ os.length ≤ 1000 := fun i d e hd he => by
    match i, hd, he with
    | 0, hd, he => exact ⟨_, _, (Option.some.inj hd).symm, (Option.some.inj he).symm, ⟨okRe_all okB1 _, okRe_all okB1 _⟩, by rw [List.length_map]; exact p1.1, by rw [List.length_map]; exact p2.1⟩
    | 1, hd, he => exact ⟨_, _, (Option.some.inj hd).symm, (Option.some.inj he).symm, ⟨okRe_all okS1 _, okRe_all okS1 _⟩, by rw [List.length_map]; exact p1.2, by rw [List.length_map]; exact p2.2⟩
    | n + 2, hd, he => simp at hd
  refine sq (st_forZx (ds := [PREs K (a.burns.map (reB K)), PREs K (a.sights.map (reS K))]) (es := [PREs K (b.burns.map (reB K)), PREs K (b.sights.map (reS K))]) rfl (fun i (x : List Int) => x.length ≤ i) (fun _ _ => [some (PCr K a), some (PCr K b), some (PV (.ref l)), none, none, none])
    (fun i x => [some (PCr K a), some (PCr K b), some (PV (.ref l)), [PREs K (a.burns.map (reB K)), PREs K (a.sights.map (reS K))][i]?, [PREs K (b.burns.map (reB K)), PREs K (b.sights.map (reS K))][i]?, none]) (fun _ x => some (owL l (x.map fun i => PI i))) [] (Nat.le_refl _) ok3
    (a_cons ((g_entries (g_var rfl) p1).is e1) (a_cons ((g_entries (g_var rfl) p2).is e2) a_nil)) (fun i d e x hd he r => ?_) (fun C0 C up i d e x hd he r s' H' ok4 N hN => ?_) (fun x s' H' r ok4 => ?_))
  · rw [hd, he]
    exact tg_tup (tgs_cons tg_name (tgs_cons tg_name tgs_nil))
  · rw [hd, he] at ok4
    have hi : i < 2 := (List.getElem?_eq_some_iff.mp hd).1
    have r : x.length ≤ i := r
    obtain ⟨rs, os, rfl, rfl, hp⟩ := lens i d e hd he
    refine sq_asg ok4 (g_first_difference (g_var rfl) (g_var rfl) hp) fun z5 H5 ok5 => ?_
    rcases ok5.tick (i := 5) rfl with ok6 | ⟨n, ok6⟩
    · refine st_if ok6 (t_test (g_notN (k := true) (g_var rfl) fun _ _ h => pn_non h)) (fun hb => nomatch hb) fun hb H7 ok7 => hN _ _ x (Nat.le_succ_of_le r) (ok7.forget [3, 4, 5])
    · refine st_if ok6 (t_test (g_notN (k := false) (g_var rfl) fun _ _ h => pi_non h)) (fun hb H7 ok7 => ?_) fun hb => nomatch hb
      refine st_app ok7 (g_var rfl) (d := PI n) (g_var rfl) (by rw [List.length_map]; omega) fun H8 ok8 => hN _ _ (x ++ [n]) (by rw [List.length_append, List.length_singleton]; omega) ?_
      rw [List.map_append]
      exact ok8.forget [3, 4, 5]
  · have ok5 := OkS.freezeL (i := 2) ok4 rfl
    dsimp only
    refine sq_if0 ok5 (t_truL (g_var rfl)) (fun hb H6 ok6 => ?_) fun hb H6 ok6 => ?_
    · refine st_ret ok6 (g_cb (a_cons (g_var rfl) a_nil) (r_minT ?_)) kr
      cases x with
      | nil => cases hb
      | cons y ys => exact Nat.succ_pos _
    · exact st_ret ok6 (EvG.imp g_c fun _ _ => tick_n) kr
/-! #### rules_differ, touched_crafts, touched_sites, gone, differences -/
abbrev sp_rules_differ (K : PySem.W.Frag) : Sp := spF (fun a : Ct × Ct => [PCt K a.1, PCt K a.2]) (fun _ => True) fun a => PB (rulesD a.1 a.2)
theorem g_rules_differ {a b : Ct} (ha : EvG ta G (PCt K a)) (hb : EvG tb G (PCt K b)) : EvG (tCall (sp_rules_differ K) [] E (tCons ta (tCons tb tNil))) G (PB (rulesD a b)) := g_callF (args := fun a : Ct × Ct => [PCt K a.1, PCt K a.2]) (res := fun a : Ct × Ct => PB (rulesD a.1 a.2)) (a, b) trivial (a_cons ha (a_cons hb a_nil))
theorem d_rules_differ (T : Tx w K mg) : Df P w K mg base CX0 2 "rules_differ" ["before", "after"] (sp_rules_differ K) := by
  have G_body_data := d_body_data (P := P) (base := base) T
  refine df_F T.F_rules_differ T.g_rules_differ T.B_rules_differ sc_rules_differ (fun _ => rfl) (fun a => [some (PCt K a.1), some (PCt K a.2)]) (fun _ => rfl) fun cdv A' outer s H E hr => ⟨_, (pss_cons (ps_if (pt_cmpR (op_neD hr.units) (pe_d G_body_data hr (pa_cons (pe_fld (pv 0) rfl) pa_nil)) (pe_d G_body_data hr (pa_cons (pe_fld (pv 1) rfl) pa_nil)) (nomark _)) (pss_one (ps_ret pe_bl)) pss_nil)
    (pss_one (ps_ret (pe_or (pe_cmpR op_ne (pe_fld (pv 0) rfl) (pe_fld (pv 1) rfl) (nomark _)) (pe_one (pe_cmpR op_ne (pe_fld (pv 0) rfl) (pe_fld (pv 1) rfl) (nomark _))))))), ?_⟩
  intro a pre B0 z D ok kr kn
  obtain ⟨a, b⟩ := a
  refine sq_if0 ok (t_test (g_deepne (g_body_data (g_fld (g_var rfl) T.cl_Contents T.na_Contents_body rfl)) (g_body_data (g_fld (g_var rfl) T.cl_Contents T.na_Contents_body rfl)) (dpBd K _) (dpBd K _) (dBd_ok _) (dBd_ok _))) (fun hb H1 ok1 => ?_) fun hb H1 ok1 => ?_
  · exact st_retE ok1 g_c (congrArg (fun b => PB b) (show rulesD a b = true from by show (_ || _) = true; rw [show (!PyData.eqv (dBd a.body) (dBd b.body)) = true from hb]; rfl)) kr
  · exact st_retE ok1 (g_orV (EvG.is (g_op (g_fld (g_var rfl) T.cl_Contents T.na_Contents_stride rfl) (g_fld (g_var rfl) T.cl_Contents T.na_Contents_stride rfl) (r_ne rfl)) (congrArg (fun b => PB (!b)) intdec)) (fun _ => EvG.is (g_op (g_fld (g_var rfl) T.cl_Contents T.na_Contents_fineness rfl) (g_fld (g_var rfl) T.cl_Contents T.na_Contents_fineness rfl) (r_ne rfl)) (congrArg (fun b => PB (!b)) intdec)))
      (congrArg (fun b => PB b) (show rulesD a b = _ from by show (_ || _) = _; rw [show (!PyData.eqv (dBd a.body) (dBd b.body)) = false from hb]; rfl)) kr
abbrev okDf (a b : Ct) : Prop := (okCt 100 a ∧ okCt 100 b)
abbrev PTchs (K : PySem.W.Frag) (ns : List Str) : Dn := PL (ns.map (PTch K))
abbrev sp_touched_crafts (K : PySem.W.Frag) : Sp := spF (fun a : Ct × Ct => [PCt K a.1, PCt K a.2]) (fun a => okDf a.1 a.2) fun a => PTchs K (touchedN a.1 a.2)
theorem g_touched_crafts {a b : Ct} (ha : EvG ta G (PCt K a)) (hb : EvG tb G (PCt K b)) (h : okDf a b) : EvG (tCall (sp_touched_crafts K) [] E (tCons ta (tCons tb tNil))) G (PTchs K (touchedN a b)) := g_callF (args := fun a : Ct × Ct => [PCt K a.1, PCt K a.2]) (res := fun a : Ct × Ct => PTchs K (touchedN a.1 a.2)) (a, b) h (a_cons ha (a_cons hb a_nil))
theorem g_imp2 {x : Str} {t : TE} {d : Dn} (ha : EvG ta G (PS x)) (hb : EvG t G d) (h : ∀ H v, d.holds H v → PTick.holds H v) : EvG (tTup (tCons ta (tCons t tNil))) G (PTch K x) := g_tup (a_cons ha (a_cons (hb.imp h) a_nil)) (Nat.le_of_ble_eq_true rfl)
theorem d_touched_crafts (T : Tx w K mg) : Df P w K mg base CX0 3 "touched_crafts" ["before", "after"] (sp_touched_crafts K) := by
  have G_rules_differ := d_rules_differ (P := P) (base := base) T
  have G_find_named := d_find_named (P := P) (base := base) T
  have G_same_craft := d_same_craft (P := P) (base := base) T
  have G_touched_at := d_touched_at (P := P) (base := base) T
  refine df_F T.F_touched_crafts T.g_touched_crafts T.B_touched_crafts sc_touched_crafts (fun _ => rfl) (fun a => [some (PCt K a.1), some (PCt K a.2), none, none, none, none]) (fun _ => rfl) fun cdv A' outer s H E hr => ⟨_, (pss_cons (ps_set (i := 2) sc_touched_crafts.nd rfl (by first | exact Or.inl rfl | exact Or.inr rfl) (pe_lst pa_nil))
    (pss_cons (ps_set (i := 3) sc_touched_crafts.nd rfl (by first | exact Or.inl rfl | exact Or.inr rfl) (pe_d G_rules_differ hr (pa_cons (pv 0) (pa_cons (pv 1) pa_nil))))
    (pss_cons (ps_for PassesOwn.never rfl (pi_tup (pe_fld (pv 1) rfl)) (pg_name (i := 4) sc_touched_crafts.nd rfl (by first | exact Or.inl rfl | exact Or.inr rfl)) (pss_cons (ps_set (i := 5) sc_touched_crafts.nd rfl (by first | exact Or.inl rfl | exact Or.inr rfl) (pe_d G_find_named hr (pa_cons (pe_fld (pv 0) rfl) (pa_cons (pe_fld (pv 4) rfl) pa_nil))))
    (pss_one (ps_if (pt_cmpR op_isN (pv 5) pe_non (nomark _)) (pss_one (ps_expr (pe_bm PySem.F.plainAttrs_list PySem.F.slot_list_append PySem.F.type_list_append mt_append (pv 2) (pa_cons (pe_tup (pa_cons (pe_fld (pv 4) rfl) (pa_cons (pe_fld (pv 4) rfl) pa_nil))) pa_nil)))) (pss_one (ps_if (pt_val (pv 3)) (pss_one (ps_expr (pe_bm PySem.F.plainAttrs_list PySem.F.slot_list_append PySem.F.type_list_append mt_append (pv 2) (pa_cons (pe_tup (pa_cons (pe_fld (pv 4) rfl) (pa_cons (pe_callB (call_min2 rfl) rfl T.n_min (by decide +kernel) (pa_cons (pe_fld (pv 5) rfl) (pa_cons (pe_fld (pv 4) rfl) pa_nil))) pa_nil))) pa_nil)))) (pss_one (ps_if (pt_not (pt_val (pe_d G_same_craft hr (pa_cons (pv 5) (pa_cons (pv 4) pa_nil))))) (pss_one (ps_expr (pe_bm PySem.F.plainAttrs_list PySem.F.slot_list_append PySem.F.type_list_append mt_append (pv 2) (pa_cons (pe_tup (pa_cons (pe_fld (pv 4) rfl) (pa_cons (pe_d G_touched_at hr (pa_cons (pv 5) (pa_cons (pv 4) pa_nil))) pa_nil))) pa_nil)))) pss_nil))))))))
    (pss_one (ps_ret (pv 2)))))), ?_⟩
  intro a pre B0 z D ok kr kn
  obtain ⟨a, b⟩ := a
  obtain ⟨p1, p2⟩ := pre
  have p1 : okCt 100 a := p1
  have p2 : okCt 100 b := p2
  have hlb := p2.lc
  refine sq_own ok a_nil fun l z1 H1 ok1 => ?_
  refine sq_asg ok1 (g_rules_differ (g_var rfl) (g_var rfl)) fun z2 H2 ok2 => ?_
  refine sq (st_forTm b.crafts (PCr K) (fun i (_ : Unit) => True) (fun _ _ => [some (PCt K a), some (PCt K b), some (PV (.ref l)), some (PB (rulesD a b)), none, none]) (fun y _ _ => [some (PCt K a), some (PCt K b), some (PV (.ref l)), some (PB (rulesD a b)), some (PCr K y), none])
    (fun i _ => some (owL l ((((b.crafts.take i).filter (tchB a b)).map (·.name)).map (PTch K)))) () trivial ok2 (g_fld (g_var rfl) T.cl_Contents T.na_Contents_crafts rfl) (fun y i x => tg_name) (fun C0 C up i y x hy r s' H' ok3 N hN => ?_) (fun x s' H' r ok3 => ?_))
  · have hlt := at_lt hy
    have hm := p2.c y (List.mem_of_getElem? hy)
    have hl : ((((b.crafts.take i).filter (tchB a b)).map (·.name)).map (PTch K)).length < 100000 := by
      rw [List.length_map, List.length_map]
      have h1 := List.length_filter_le (tchB a b) (b.crafts.take i)
      rw [List.length_take] at h1
      omega
    have yes : tchB a b y = true → (((b.crafts.take (i + 1)).filter (tchB a b)).map (·.name)).map (PTch K) = (((b.crafts.take i).filter (tchB a b)).map (·.name)).map (PTch K) ++ [PTch K y.name] := fun h => by
      rw [take_at hy, List.filter_append, List.filter_cons_of_pos h, List.filter_nil, List.map_append, List.map_append]
      rfl
    have no : tchB a b y = false → ((b.crafts.take (i + 1)).filter (tchB a b)) = ((b.crafts.take i).filter (tchB a b)) := fun h => by
      rw [take_at hy, List.filter_append, List.filter_cons_of_neg (by rw [h]; exact Bool.false_ne_true), List.filter_nil, List.append_nil]
    refine sq_asg ok3 (g_findC T (g_fld (g_var rfl) T.cl_Contents T.na_Contents_crafts rfl) (g_fld (g_var rfl) T.cl_Craft T.na_Craft_name rfl)) fun z4 H4 ok4 => ?_
    have ok4 : OkS C0 C [some (PCt K a), some (PCt K b), some (PV (.ref l)), some (PB (rulesD a b)), some (PCr K y), some (popt (findC a.crafts y.name) (PCr K))] (some (owL l ((((b.crafts.take i).filter (tchB a b)).map (·.name)).map (PTch K)))) z4 H4 := ok4
    have et : tchB a b y = match findC a.crafts y.name with | none => true | some old => rulesD a b || !PyData.eqv (dCr old) (dCr y) := rfl
    have fin : ∀ {z : L2.St} {H9 : Hp} {q : Option Dn}, tchB a b y = true → OkS C0 C [some (PCt K a), some (PCt K b), some (PV (.ref l)), some (PB (rulesD a b)), some (PCr K y), q] (some (owL l ((((b.crafts.take i).filter (tchB a b)).map (·.name)).map (PTch K) ++ [PTch K y.name]))) z H9 → N z H9 := fun {z H9 q} h ok9 => by
      refine hN _ _ () trivial ?_
      rw [yes h]
      exact ok9.forget [4, 5]
    have fin0 : ∀ {z : L2.St} {H9 : Hp} {q : Option Dn}, tchB a b y = false → OkS C0 C [some (PCt K a), some (PCt K b), some (PV (.ref l)), some (PB (rulesD a b)), some (PCr K y), q] (some (owL l ((((b.crafts.take i).filter (tchB a b)).map (·.name)).map (PTch K)))) z H9 → N z H9 := fun {z H9 q} h ok9 => by
      refine hN _ _ () trivial ?_
      rw [no h]
      exact ok9.forget [4, 5]
    cases q : findC a.crafts y.name with
    | none =>
      rw [q] at ok4 et
      refine st_if ok4 (t_test (g_isN (k := true) (g_var rfl) fun _ _ h => popt_nonO h)) (fun hb H5 ok5 => ?_) fun hb => nomatch hb
      exact st_app ok5 (g_var rfl) (g_imp2 (K := K) (g_fld (g_var rfl) T.cl_Craft T.na_Craft_name rfl) (g_fld (g_var rfl) T.cl_Craft T.na_Craft_start rfl) fun _ _ => tick_i) hl fun H6 ok6 => fin et ok6
    | some old =>
      have ho := p1.c old (findC_mem q).1
      rw [q] at ok4 et
      have et : tchB a b y = (rulesD a b || !PyData.eqv (dCr old) (dCr y)) := et
      refine st_if ok4 (t_test (g_isN (k := false) (g_var rfl) fun _ _ h => popt_nonO h)) (fun hb => nomatch hb) fun hb H5 ok5 => ?_
      refine st_if ok5 (t_B (g_var rfl)) (fun hc H6 ok6 => ?_) fun hc H6 ok6 => ?_
      · rw [hc] at et
        exact st_app ok6 (g_var rfl) (g_imp2 (K := K) (g_fld (g_var rfl) T.cl_Craft T.na_Craft_name rfl) (g_cb (a_cons (g_fld (C := He.ga K "Craft") (fs := crF K old) (g_var rfl) T.cl_Craft T.na_Craft_start rfl) (a_cons (g_fld (g_var rfl) T.cl_Craft T.na_Craft_start rfl) a_nil)) r_min2) fun _ _ => tick_i) hl fun H7 ok7 => fin et ok7
      · rw [hc, Bool.false_or] at et
        refine st_if ok6 (t_not (t_B (g_same_craft (a := old) (b := y) (g_var rfl) (g_var rfl) ⟨⟨ho.crS, hm.crS⟩, ho.c.n, hm.c.n⟩))) (fun hd H7 ok7 => ?_) fun hd H7 ok7 => ?_
        · exact st_app ok7 (g_var rfl) (g_imp2 (K := K) (g_fld (g_var rfl) T.cl_Craft T.na_Craft_name rfl) (g_touched_at (a := old) (b := y) (g_var rfl) (g_var rfl) ⟨ho.crS, hm.crS⟩) fun _ _ h => h) hl fun H8 ok8 => fin (et.trans hd) ok8
        · exact fin0 (et.trans hd) ok7
  · rw [List.take_length] at ok3
    have ok4 := OkS.freezeL (i := 2) ok3 rfl
    exact st_ret ok4 (g_var rfl) kr
abbrev sp_touched_sites (K : PySem.W.Frag) : Sp := spF (fun a : Ct × Ct => [PCt K a.1, PCt K a.2]) (fun a => okDf a.1 a.2) fun _ => PAny
theorem g_touched_sites {a b : Ct} (ha : EvG ta G (PCt K a)) (hb : EvG tb G (PCt K b)) (h : okDf a b) : EvG (tCall (sp_touched_sites K) [] E (tCons ta (tCons tb tNil))) G PAny := g_callF (args := fun a : Ct × Ct => [PCt K a.1, PCt K a.2]) (a, b) h (a_cons ha (a_cons hb a_nil))
theorem d_touched_sites (T : Tx w K mg) : Df P w K mg base CX0 3 "touched_sites" ["before", "after"] (sp_touched_sites K) := by
  have G_find_named := d_find_named (P := P) (base := base) T
  refine df_F T.F_touched_sites T.g_touched_sites T.B_touched_sites sc_touched_sites (fun _ => rfl) (fun a => [some (PCt K a.1), some (PCt K a.2), none, none, none, none]) (fun _ => rfl) fun cdv A' outer s H E hr => ⟨_, (pss_cons (ps_set (i := 2) sc_touched_sites.nd rfl (by first | exact Or.inl rfl | exact Or.inr rfl) (pe_cmpR (op_neD hr.units) (pe_fld (pe_fld (pv 0) rfl) rfl) (pe_fld (pe_fld (pv 1) rfl) rfl) (nomark _)))
    (pss_cons (ps_set (i := 3) sc_touched_sites.nd rfl (by first | exact Or.inl rfl | exact Or.inr rfl) (pe_lst pa_nil))
    (pss_cons (ps_for PassesOwn.never rfl (pi_tup (pe_fld (pv 1) rfl)) (pg_name (i := 4) sc_touched_sites.nd rfl (by first | exact Or.inl rfl | exact Or.inr rfl)) (pss_cons (ps_set (i := 5) sc_touched_sites.nd rfl (by first | exact Or.inl rfl | exact Or.inr rfl) (pe_d G_find_named hr (pa_cons (pe_fld (pv 0) rfl) (pa_cons (pe_fld (pv 4) rfl) pa_nil))))
    (pss_one (ps_if (PW.pt (pw_or (pt_cmpR op_isN (pv 5) pe_non (nomark _)) (pw_or (pt_val (pv 2)) (pw_or1 (pt_cmpR (op_neD hr.units) (pe_fld (pv 5) rfl) (pe_fld (pv 4) rfl) (nomark _)))))) (pss_one (ps_expr (pe_bm PySem.F.plainAttrs_list PySem.F.slot_list_append PySem.F.type_list_append mt_append (pv 3) (pa_cons (pe_fld (pv 4) rfl) pa_nil)))) pss_nil))))
    (pss_one (ps_ret (pv 3)))))), ?_⟩
  intro a pre B0 z D ok kr kn
  obtain ⟨a, b⟩ := a
  obtain ⟨p1, p2⟩ := pre
  have p1 : okCt 100 a := p1
  have p2 : okCt 100 b := p2
  have hlb := p2.ls
  refine sq_asg ok (g_deepne (g_fld (g_fld (g_var rfl) T.cl_Contents T.na_Contents_body rfl) T.cl_Body T.na_Body_turn rfl) (g_fld (g_fld (g_var rfl) T.cl_Contents T.na_Contents_body rfl) T.cl_Body T.na_Body_turn rfl) (dp3 K _) (dp3 K _) (d3_ok _) (d3_ok _)) fun z1 H1 ok1 => ?_
  obtain ⟨tb, htb⟩ : ∃ tb, (!PyData.eqv (d3 a.body.turn) (d3 b.body.turn)) = tb := ⟨_, rfl⟩
  have ok1 : OkS B0 H [some (PCt K a), some (PCt K b), some (PB (!PyData.eqv (d3 a.body.turn) (d3 b.body.turn))), none, none, none] none z1 H1 := ok1
  rw [htb] at ok1
  refine sq_own ok1 a_nil fun l z2 H2 ok2 => ?_
  refine sq (st_forTm b.sites (PSi K) (fun i (x : List Dn) => x.length ≤ i) (fun _ _ => [some (PCt K a), some (PCt K b), some (PB tb), some (PV (.ref l)), none, none]) (fun y _ _ => [some (PCt K a), some (PCt K b), some (PB tb), some (PV (.ref l)), some (PSi K y), none])
    (fun i x => some (owL l x)) [] (Nat.le_refl _) ok2 (g_fld (g_var rfl) T.cl_Contents T.na_Contents_sites rfl) (fun y i x => tg_name) (fun C0 C up i y x hy r s' H' ok3 N hN => ?_) (fun x s' H' r ok3 => ?_))
  · have hlt := at_lt hy
    have r : x.length ≤ i := r
    refine sq_asg ok3 (g_findS T (g_fld (g_var rfl) T.cl_Contents T.na_Contents_sites rfl) (g_fld (g_var rfl) T.cl_Site T.na_Site_name rfl)) fun z4 H4 ok4 => ?_
    have ok4 : OkS C0 C [some (PCt K a), some (PCt K b), some (PB tb), some (PV (.ref l)), some (PSi K y), some (popt (findS a.sites y.name) (PSi K))] (some (owL l x)) z4 H4 := ok4
    cases q : findS a.sites y.name with
    | none =>
      rw [q] at ok4
      refine st_if ok4 (t_or (j := true) (t_test (g_isN (k := true) (g_var rfl) fun _ _ h => popt_nonO h)) (k := true) (fun h => nomatch h)) (fun hb H5 ok5 => ?_) fun hb => nomatch hb
      exact st_app ok5 (g_var rfl) (g_fld (g_var rfl) T.cl_Site T.na_Site_name rfl) (by omega) fun H6 ok6 => hN _ _ _ (by rw [List.length_append, List.length_singleton]; omega) (ok6.forget [4, 5])
    | some old =>
      rw [q] at ok4
      refine st_if ok4 (t_or (t_test (g_isN (k := false) (g_var rfl) fun _ _ h => popt_nonO h)) (fun _ => t_or (t_B (g_var rfl)) (fun _ => t_test (g_deepne (g_fld (C := He.ga K "Site") (fs := [("name", PS old.name), ("place", P3 K old.place)]) (g_var rfl) T.cl_Site T.na_Site_place rfl) (g_fld (g_var rfl) T.cl_Site T.na_Site_place rfl) (dp3 K _) (dp3 K _) (d3_ok _) (d3_ok _))))) (fun hb H5 ok5 => ?_) fun hb H5 ok5 => hN _ _ x (Nat.le_succ_of_le r) (ok5.forget [4, 5])
      exact st_app ok5 (g_var rfl) (g_fld (g_var rfl) T.cl_Site T.na_Site_name rfl) (by omega) fun H6 ok6 => hN _ _ _ (by rw [List.length_append, List.length_singleton]; omega) (ok6.forget [4, 5])
  · have ok4 := OkS.freezeL (i := 3) ok3 rfl
    exact st_ret ok4 (EvG.imp (g_var rfl) fun _ _ _ => trivial) kr
abbrev sp_gone (K : PySem.W.Frag) : Sp := spF (fun a : List NR × List NR => [PRs K a.1, PRs K a.2]) (fun a => ((∀ r ∈ a.1, okN K r) ∧ ∀ r ∈ a.2, okN K r) ∧ a.1.length ≤ 1000) fun a => PL ((a.1.filter fun r => (a.2.find? (byN r.name)).isNone).map fun r => PS r.name)
theorem g_gone {rs os : List NR} (ha : EvG ta G (PRs K rs)) (hb : EvG tb G (PRs K os)) (h : ((∀ r ∈ rs, okN K r) ∧ ∀ r ∈ os, okN K r) ∧ rs.length ≤ 1000) : EvG (tCall (sp_gone K) [] E (tCons ta (tCons tb tNil))) G (PL ((rs.filter fun r => (os.find? (byN r.name)).isNone).map fun r => PS r.name)) := g_callF (args := fun a : List NR × List NR => [PRs K a.1, PRs K a.2]) (res := fun a : List NR × List NR => PL ((a.1.filter fun r => (a.2.find? (byN r.name)).isNone).map fun r => PS r.name)) (rs, os) h (a_cons ha (a_cons hb a_nil))
theorem d_gone (T : Tx w K mg) : Df P w K mg base CX0 2 "gone" ["rows", "others"] (sp_gone K) := by
  have G_find_named := d_find_named (P := P) (base := base) T
  refine df_F T.F_gone T.g_gone T.B_gone sc_gone (fun _ => rfl) (fun a => [some (PRs K a.1), some (PRs K a.2), none]) (fun _ => rfl) fun cdv A' outer s H E hr => ⟨_, (pss_one (ps_ret (pe_lc (own := [("row", 2)]) (g := (gName 2)) rfl sc_gone.nd (pi_tup (pv 0)) (blkOk_by (N := N_gone) (sc := defScope S_gone) (by decide +kernel)) (fun _ _ _ _ _ => (pg_name (i := 2) sc_gone.nd rfl (Or.inl rfl))) (fun _ _ _ _ _ => pts_one (pt_cmpR op_isN (pe_d G_find_named hr (pa_cons (pv 1) (pa_cons (pe_fldK (K := K) (pv 2) rfl) pa_nil))) pe_non (nomark _))) (fun _ _ _ _ _ => (pe_fldK (K := K) (pv 2) rfl))))), ?_⟩
  intro a pre B0 z D ok kr kn
  obtain ⟨rs, os⟩ := a
  obtain ⟨⟨p1, p2⟩, p3⟩ := pre
  have p1 : ∀ r ∈ rs, okN K r := p1
  have p3 : rs.length ≤ 1000 := p3
  exact st_ret ok (g_lcT (vs := [2]) rs PNR (fun r => PS r.name) (fun r => (os.find? (byN r.name)).isNone) (fun r => [some (PRs K rs), some (PRs K os), some (PNR r)]) (g_var rfl) (by omega) (fun _ _ => tc_name)
    (fun r hr => t_test (g_isN (g_find_named (g_var rfl) (g_fld (g_var rfl) (p1 r hr).c (p1 r hr).n (p1 r hr).l) p2) fun _ _ h => popt_nonG (fun _ h => po_non h) h)) (fun r hr _ => g_fld (g_var rfl) (p1 r hr).c (p1 r hr).n (p1 r hr).l)) kr
theorem gone_eq (as bs : List Cr) : (((as.map (nrC K)).filter fun r => ((bs.map (nrC K)).find? (byN r.name)).isNone).map fun r => PS r.name) = (as.filter fun c => (findC bs c.name).isNone).map fun c => PS c.name := by
  rw [List.filter_map, List.map_map]
  have e : ((fun r : NR => ((bs.map (nrC K)).find? (byN r.name)).isNone) ∘ nrC K) = fun c : Cr => (findC bs c.name).isNone := by
    funext c
    show ((bs.map (nrC K)).find? (byN c.name)).isNone = _
    rw [List.find?_map, Option.isNone_map]
    rfl
  rw [e]
  rfl
theorem gone_ex (as bs : List Si) : ∃ ds, PL (((as.map (nrS K)).filter fun r => ((bs.map (nrS K)).find? (byN r.name)).isNone).map fun r => PS r.name) = PL ds := ⟨_, rfl⟩
abbrev sp_differences (K : PySem.W.Frag) : Sp := spF (fun a : Ct × Ct => [PCt K a.1, PCt K a.2]) (fun a => okDf a.1 a.2) fun a => PTold K a.1 a.2
theorem g_differences {a b : Ct} (ha : EvG ta G (PCt K a)) (hb : EvG tb G (PCt K b)) (h : okDf a b) : EvG (tCall (sp_differences K) [] E (tCons ta (tCons tb tNil))) G (PTold K a b) := g_callF (args := fun a : Ct × Ct => [PCt K a.1, PCt K a.2]) (res := fun a : Ct × Ct => PTold K a.1 a.2) (a, b) h (a_cons ha (a_cons hb a_nil))
theorem d_differences (T : Tx w K mg) : Df P w K mg base CX0 4 "differences" ["before", "after"] (sp_differences K) := by
  have G_touched_crafts := d_touched_crafts (P := P) (base := base) T
  have G_touched_sites := d_touched_sites (P := P) (base := base) T
  have G_gone := d_gone (P := P) (base := base) T
  refine df_F T.F_differences T.g_differences T.B_differences sc_differences (fun _ => rfl) (fun a => [some (PCt K a.1), some (PCt K a.2), none, none]) (fun _ => rfl) fun cdv A' outer s H E hr => ⟨_, (pss_cons (ps_set (i := 2) sc_differences.nd rfl (by first | exact Or.inl rfl | exact Or.inr rfl) (pe_d G_touched_crafts hr (pa_cons (pv 0) (pa_cons (pv 1) pa_nil))))
    (pss_cons (ps_set (i := 3) sc_differences.nd rfl (by first | exact Or.inl rfl | exact Or.inr rfl) (pe_d G_touched_sites hr (pa_cons (pv 0) (pa_cons (pv 1) pa_nil))))
    (pss_one (ps_ret (pe_tup (pa_cons (pv 2) (pa_cons (pe_d G_gone hr (pa_cons (pe_fld (pv 0) rfl) (pa_cons (pe_fld (pv 1) rfl) pa_nil))) (pa_cons (pv 3) (pa_cons (pe_d G_gone hr (pa_cons (pe_fld (pv 0) rfl) (pa_cons (pe_fld (pv 1) rfl) pa_nil))) pa_nil))))))))), ?_⟩
  intro a pre B0 z D ok kr kn
  obtain ⟨a, b⟩ := a
  have p1 : okCt 100 a := pre.1
  have p2 : okCt 100 b := pre.2
  have h1 := p1.lc
  have h2 := p1.ls
  refine sq_asg ok (g_touched_crafts (g_var rfl) (g_var rfl) pre) fun z1 H1 ok1 => ?_
  refine sq_asg ok1 (g_touched_sites (g_var rfl) (g_var rfl) pre) fun z2 H2 ok2 => ?_
  refine st_ret ok2 (g_tup (a_cons (g_var rfl) (a_cons (EvG.is (g_gone (rs := a.crafts.map (nrC K)) (os := b.crafts.map (nrC K)) ((g_fld (g_var rfl) T.cl_Contents T.na_Contents_crafts rfl).is (prs_C _).symm) ((g_fld (g_var rfl) T.cl_Contents T.na_Contents_crafts rfl).is (prs_C _).symm) ⟨⟨mem_map_ok (okN_C T) _, mem_map_ok (okN_C T) _⟩, by rw [List.length_map]; omega⟩) ?_)
    (a_cons (g_var rfl) (a_cons (EvG.imp (g_gone (rs := a.sites.map (nrS K)) (os := b.sites.map (nrS K)) ((g_fld (g_var rfl) T.cl_Contents T.na_Contents_sites rfl).is (prs_S _).symm) ((g_fld (g_var rfl) T.cl_Contents T.na_Contents_sites rfl).is (prs_S _).symm) ⟨⟨mem_map_ok (okN_S T) _, mem_map_ok (okN_S T) _⟩, by rw [List.length_map]; omega⟩) fun _ _ _ => trivial) a_nil)))) (Nat.le_of_ble_eq_true rfl)) kr
  rw [gone_eq]
  exact congrArg PL mapc
end
end K9
set_option Elab.async false
set_option linter.all false
set_option maxRecDepth 100000
set_option maxHeartbeats 4000000
/-! K9Da: an object of ours that is read and written: Catalogue. -/
namespace K9
open PySem PySem.Spec PyProof.Rows L2
section
variable {K : PySem.W.Frag} {G : Cn} {W : Ow} {ta tb tc te tv : TE} {t tr : TA} {a b d : Dn} {B0 B : Hp} {s : L2.St} {H : Hp} {D : Ends} {rest : TS} {E : XK}
structure Own (w : Ow) (H0 H : Hp) : Prop where
  n : H0 w.a = none
  o : ∃ o, H w.a = some o ∧ w.ok H0 o
theorem Own.grow {w : Ow} {H0 H H0' H' : Hp} (h : Own w H0 H) (g : Grow H0 H H0' H') : Own w H0' H' := by
  obtain ⟨h1, o, h3, h4⟩ := h
  exact ⟨g.none_ h1 (by rw [h3]; exact fun z => nomatch z), o, g.c _ _ h3, w.mono g.a h4⟩
def EvW (w : Ow) (te : TE) (G : Cn) (d : Dn) : Prop := ∀ (s : L2.St) (H0 H : Hp), Same H0 H → Sl H0 G s → Own w H0 H → ∀ Q : VK, (∀ v H0' H', Grow H0 H H0' H' → d.holds H0' v → Q v H') → te s H Q
def EvWA (w : Ow) (t : TA) (G : Cn) (ds : List Dn) : Prop := ∀ (s : L2.St) (H0 H : Hp), Same H0 H → Sl H0 G s → Own w H0 H → ∀ Q : List V → Hp → Prop, (∀ vs H0' H', Grow H0 H H0' H' → AllH H0' ds vs → Q vs H') → t s H Q
def EvWX (K : PySem.W.Frag) (w : Ow) (te : TE) (G : Cn) (o : Option Dn) (E : XK) : Prop := ∀ (s : L2.St) (H0 H : Hp), Same H0 H → Sl H0 G s → Own w H0 H → ∀ Q : VK, (∀ d, o = some d → ∀ v H0' H', Grow H0 H H0' H' → d.holds H0' v → Q v H') → (o = none → KeX K E H0 H) → te s H Q
theorem w_of (h : EvG te G d) : EvW W te G d := fun s H0 H sm sl _ Q k => h s H0 H sm sl Q k
theorem EvW.is {d' : Dn} (h : EvW W te G d) (e : d = d') : EvW W te G d' := e ▸ h
theorem EvW.imp {d' : Dn} (h : EvW W te G d) (e : ∀ H v, d.holds H v → d'.holds H v) : EvW W te G d' := fun s H0 H sm sl ow Q k => h s H0 H sm sl ow Q fun v H0' H' g hv => k v H0' H' g (e _ _ hv)
/-- self.f -/
theorem w_own {p C dx : Addr} {fs : List (Str × Dn)} {f : Str} (h : EvG ta G (PV (.ref p))) (hc : Cls K C) (hn : NoAttr K C f) (hl : fs.lookup f = some d) : EvW (owI p C dx fs) (tFld K ta f) G d := fun s H0 H sm sl ow Q k =>
  h s H0 H sm sl _ fun v H1 H' g hv => by
    obtain ⟨_, o, h3, us, e, h4⟩ := ow.grow g
    have hv : v = .ref p := hv
    have e : o = .ins C dx us := e
    subst hv e
    obtain ⟨u, h5, h6⟩ := h4.look hl
    exact ⟨p, C, dx, us, u, rfl, h3, hc, hn, h5, k u H1 H' g h6⟩
/-- a field of what we hold -/
theorem w_fld {C : Addr} {fs : List (Str × Dn)} {f : Str} (h : EvW W ta G (PO C fs)) (hc : Cls K C) (hn : NoAttr K C f) (hl : fs.lookup f = some d) : EvW W (tFld K ta f) G d := fun s H0 H sm sl ow Q k =>
  h s H0 H sm sl ow _ fun v H1 H' g ⟨x, dx, vs, e, ho, hf⟩ => by
    obtain ⟨u, h1, h2⟩ := hf.look hl
    exact ⟨x, C, dx, vs, u, e, g.b _ _ ho, hc, hn, h1, k u H1 H' g h2⟩
theorem w_op {r : R2} (ha : EvW W ta G a) (hb : EvW W tb G b) (hr : R2G r a b d) : EvW W (tOp r ta tb) G d := fun s H0 H sm sl ow Q k =>
  ha s H0 H sm sl ow _ fun x H1 H' g1 hx => hb s H1 H' g1.b (sl.mono g1.a) (ow.grow g1) _ fun y H2 H'' g2 hy => hr x y H2 H'' g2.b (a.mono g2.a hx) hy Q fun v H3 H3' g3 hv => k v H3 H3' ((g1.trans g2).trans g3) hv
theorem w_nil : EvWA W tNil G [] := fun s H0 H sm sl _ Q k => k [] H0 H (.refl sm) trivial
theorem w_cons {ds : List Dn} (h : EvW W ta G d) (hr : EvWA W tr G ds) : EvWA W (tCons ta tr) G (d :: ds) := fun s H0 H sm sl ow Q k =>
  h s H0 H sm sl ow _ fun x H1 H' g1 hx => hr s H1 H' g1.b (sl.mono g1.a) (ow.grow g1) _ fun vs H2 H'' g2 hvs => k _ H2 H'' (g1.trans g2) ⟨d.mono g2.a hx, hvs⟩
theorem w_lst {ds : List Dn} (h : EvWA W t G ds) (hl : ds.length ≤ 100000 := by exact Nat.le_of_ble_eq_true rfl) : EvW W (tLst t) G (PL ds) := fun s H0 H sm sl ow Q k =>
  h s H0 H sm sl ow _ fun vs H1 H' g1 hvs => ⟨sz_of (by rw [← hvs.len]; exact hl), fun p hp => k _ _ _ (g1.trans (.new g1.b hp)) ⟨p, vs, rfl, upd_same, hvs.mono (same_new (g1.b.free hp))⟩⟩
theorem w_callF {A : Type} {args : A → List Dn} {pre : A → Prop} {res : A → Dn} (x : A) (hp : pre x) (h : EvWA W t G (args x)) : EvW W (tCall (spF args pre res) [] E t) G (res x) := fun s H0 H sm sl ow Q k =>
  h s H0 H sm sl ow _ fun vs H1 H' g1 hvs => by
    show spF args pre res (vs ++ []) H' Q E
    rw [List.append_nil]
    exact ⟨H1, x, g1.b, hp, hvs, fun v H2 H'' g2 hv => k v H2 H'' (g1.trans g2) hv⟩
theorem w_callX {A : Type} {args : A → List Dn} {pre : A → Prop} {res : A → Option Dn} (x : A) (hp : pre x) (h : EvWA W t G (args x)) : EvWX K W (tCall (spX K args pre res) [] E t) G (res x) E := fun s H0 H sm sl ow Q k kx =>
  h s H0 H sm sl ow _ fun vs H1 H' g1 hvs => by
    show spX K args pre res (vs ++ []) H' Q E
    rw [List.append_nil]
    exact ⟨H1, x, g1.b, hp, hvs, fun d e v H2 H'' g2 hv => k d e v H2 H'' (g1.trans g2) hv, fun e C d H2 H'' hr g2 => kx e C d H2 H'' hr (g1.trans g2)⟩
/-- a slice of a list: of its data -/
def cutD (xs : List Dn) (lo hi : Option Int) : List Dn := (xs.drop (HT.sIx xs.length 0 lo)).take (HT.sIx xs.length xs.length hi - HT.sIx xs.length 0 lo)
theorem AllH.cut {H : Hp} {ds : List Dn} {vs : List V} (h : AllH H ds vs) (lo hi : Option Int) : AllH H (cutD ds lo hi) (cutV vs lo hi) := by
  unfold cutD cutV
  rw [h.len]
  exact AllH.take _ (AllH.drop _ h)
theorem w_sl {tl th : TO} {ds : List Dn} {lo hi : Option Int} (h : EvW W te G (PL ds)) (hl : ∀ (s : L2.St) (H : Hp) (Q : Option Int → Hp → Prop), Q lo H → tl s H Q) (hh : ∀ (s : L2.St) (H : Hp) (Q : Option Int → Hp → Prop), Q hi H → th s H Q) : EvW W (tSl (rSlL K) te tl th) G (PL (cutD ds lo hi)) := fun s H0 H sm sl ow Q k =>
  h s H0 H sm sl ow _ fun v H1 H' g1 ⟨x, vs, e, hx, ha⟩ => hl s H' _ (hh s H' _ ⟨x, vs, e, SqL.of (g1.b _ _ hx), fun p hp => k _ _ _ (g1.trans (.new g1.b hp)) ⟨p, _, rfl, upd_same, (ha.cut lo hi).mono (same_new (g1.b.free hp))⟩⟩)
/-! statements -/
theorem OkS.own {w : Ow} (h : OwOk (some w) B H0 H) : Own w H0 H := ⟨h.1, h.2.2⟩
theorem OkS.evW {w : Ow} {Q : VK} (h : OkS B0 B G (some w) s H) (ev : EvW w te G d) (k : ∀ v H0' H', Grow B0 B H0' H' → Sl H0' G s → OwOk (some w) B H0' H' → d.holds H0' v → Q v H') : te s H Q := by
  obtain ⟨H0, g1, sl, ow⟩ := h.ex
  exact ev s H0 H g1.b sl (OkS.own ow) _ fun v H0' H' g hv => k v H0' H' (g1.trans g) (sl.mono g.a) (ow.grow g) hv
theorem OkS.evWX {w : Ow} {Q : VK} {o : Option Dn} (h : OkS B0 B G (some w) s H) (ev : EvWX K w te G o E) (k : ∀ d, o = some d → ∀ v H0' H', Grow B0 B H0' H' → Sl H0' G s → OwOk (some w) B H0' H' → d.holds H0' v → Q v H')
    (kx2 : o = none → ∀ (C : Addr) (d : Option Addr) (H0' H' : Hp), RaisedE K (.ref C) → Grow B0 B H0' H' → OwOk (some w) B H0' H' → E (.ref C) d H') : te s H Q := by
  obtain ⟨H0, g1, sl, ow⟩ := h.ex
  exact ev s H0 H g1.b sl (OkS.own ow) _ (fun d e v H0' H' g hv => k d e v H0' H' (g1.trans g) (sl.mono g.a) (ow.grow g) hv) fun e C d H0' H' hr g => kx2 e C d H0' H' hr (g1.trans g) (ow.grow g)
theorem sq_asgW {w : Ow} {i : Nat} (h : OkS B0 B G (some w) s H) (ev : EvW w te G d) (k : ∀ s' H', OkS B0 B (G.set i (some d)) (some w) s' H' → rest D s' H') : tSeq (tAsg te (gName i)) rest D s H :=
  h.evW ev fun v H0' H' g sl ow hv => k _ _ ⟨H0', g, sl.set hv, ow⟩
theorem sq_asgWX {w : Ow} {i : Nat} {o : Option Dn} (h : OkS B0 B G (some w) s H) (ev : EvWX K w te G o E) (kx : o = none → ∀ (C : Addr) (d : Option Addr) (H0' H' : Hp), RaisedE K (.ref C) → Grow B0 B H0' H' → OwOk (some w) B H0' H' → E (.ref C) d H')
    (k : ∀ d, o = some d → ∀ s' H', OkS B0 B (G.set i (some d)) (some w) s' H' → rest D s' H') : tSeq (tAsg te (gName i)) rest D s H :=
  h.evWX ev (fun d e v H0' H' g sl ow hv => k d e _ _ ⟨H0', g, sl.set hv, ow⟩) kx
theorem st_fldW {p C dx : Addr} {fs fs' : List (Str × Dn)} {f : Str} (h : OkS B0 B G (some (owI p C dx fs)) s H) (ev : EvW (owI p C dx fs) tv G d) (eo : EvG ta G (PV (.ref p))) (hc : Cls K C) (hn : NoAttr K C f) (hl : fs.length < 1000) (e : putD f d fs = fs') (k : ∀ H', OkS B0 B G (some (owI p C dx fs')) s H' → D.nx s H') : sFld K ta tv f D s H := by
  unfold sFld
  obtain ⟨H0, g0, sl0, ow0⟩ := h.ex
  refine ev s H0 H g0.b sl0 (OkS.own ow0) _ fun y H1 H' g1 hy => ?_
  refine eo.at_ g1.b (sl0.mono g1.a) fun v H2 H'' g2 sl2 hv => ?_
  have ev1 : v = .ref p := hv
  subst ev1
  have ow2 := (ow0.grow g1).grow g2
  have gr := (g0.trans g1).trans g2
  obtain ⟨h1, h2, o, h3, us, eo2, h4⟩ := ow2
  have e2 : o = .ins C dx us := eo2
  subst e2
  have h1' : H2 p = none := h1
  have h2' : B p = none := h2
  have h3' : H'' p = some (.ins C dx us) := h3
  refine ⟨p, C, dx, us, rfl, h3', hc, hn, by rw [← h4.len]; exact hl, ?_⟩
  refine k _ ⟨H2, ⟨gr.a, fun a u q => ?_, fun a u q => ?_, gr.d⟩, sl2, h1', h2', _, upd_same, _, rfl, ?_⟩
  · rw [upd_ne (ne_of_none q h1')]
    exact gr.b _ _ q
  · rw [upd_ne (ne_of_none q h2')]
    exact gr.c _ _ q
  · rw [← e]
    exact h4.put (d.mono g2.a hy)
theorem sq_fldW {p C dx : Addr} {fs fs' : List (Str × Dn)} {f : Str} (h : OkS B0 B G (some (owI p C dx fs)) s H) (ev : EvW (owI p C dx fs) tv G d) (eo : EvG ta G (PV (.ref p))) (hc : Cls K C) (hn : NoAttr K C f) (hl : fs.length < 1000) (e : putD f d fs = fs') (k : ∀ H', OkS B0 B G (some (owI p C dx fs')) s H' → rest D s H') : tSeq (sFld K ta tv f) rest D s H := st_fldW (D := { D with nx := rest D }) h ev eo hc hn hl e k
/-- self.f += e, ints -/
theorem sq_fldaug {p C dx : Addr} {fs fs' : List (Str × Dn)} {f : Str} {i j : Int} (h : OkS B0 B G (some (owI p C dx fs)) s H) (ev : EvG tv G (PI j)) (eo : EvG ta G (PV (.ref p))) (hc : Cls K C) (hn : NoAttr K C f) (hf : fs.lookup f = some (PI i)) (hl : fs.length < 1000) (e : putD f (PI (i + j)) fs = fs')
    (k : ∀ H', OkS B0 B G (some (owI p C dx fs')) s H' → rest D s H') : tSeq (sFldAug K ta tv rAdd f) rest D s H := by
  unfold tSeq sFldAug
  obtain ⟨H0, g0, sl0, ow0⟩ := h.ex
  refine eo s H0 H g0.b sl0 _ fun v H1 H' g1 hv => ?_
  have ev1 : v = .ref p := hv
  subst ev1
  have ow1 := ow0.grow g1
  obtain ⟨_, _, o, h3, us, eo2, h4⟩ := id ow1
  have e2 : o = .ins C dx us := eo2
  subst e2
  obtain ⟨u, hu, hu2⟩ := h4.look hf
  refine ⟨p, C, dx, us, u, rfl, h3, hc, hn, hu, ?_⟩
  refine ev s H1 H' (g0.trans g1).b (sl0.mono g1.a) _ fun y H2 H'' g2 hy => ⟨i, j, hu2, hy, ?_⟩
  have ow2 := ow1.grow g2
  have gr := (g0.trans g1).trans g2
  obtain ⟨h1, h2, o2, h32, us2, eo3, h42⟩ := ow2
  have e3 : o2 = .ins C dx us2 := eo3
  subst e3
  have h1' : H2 p = none := h1
  have h2' : B p = none := h2
  refine ⟨dx, us2, h32, by rw [← h42.len]; exact hl, ?_⟩
  refine k _ ⟨H2, ⟨gr.a, fun a u q => ?_, fun a u q => ?_, gr.d⟩, (sl0.mono g1.a).mono g2.a, h1', h2', _, upd_same, _, rfl, ?_⟩
  · rw [upd_ne (ne_of_none q h1')]
    exact gr.b _ _ q
  · rw [upd_ne (ne_of_none q h2')]
    exact gr.c _ _ q
  · rw [← e]
    exact h42.put (d := PI (i + j)) rfl
/-- if self.f (a list) -/
theorem t_truW {ds : List Dn} (ha : EvW W ta G (PL ds)) : ∀ (s : L2.St) (H0 H : Hp), Same H0 H → Sl H0 G s → Own W H0 H → ∀ Q : Bool → Hp → Prop, (∀ H0' H', Grow H0 H H0' H' → Q (!ds.isEmpty) H') → (fun (σ : L2.St) (H : Hp) (Q : Bool → Hp → Prop) => ta σ H fun x H' => ∃ k, TruV K x H' k ∧ Q k H') s H Q := fun s H0 H sm sl ow Q q =>
  ha s H0 H sm sl ow _ fun v H1 H' g ⟨a, vs, e, hl, hv⟩ => by
    subst e
    refine ⟨!vs.isEmpty, .inl ⟨vs, SqL.of (g.b _ _ hl), rfl⟩, ?_⟩
    have : vs.isEmpty = ds.isEmpty := by
      have := hv.len
      cases vs <;> cases ds <;> first | rfl | simp at this
    rw [this]
    exact q H1 H' g
theorem sq_ifW {w : Ow} {tt : TT} {tu : TS} {b : Bool} (h : OkS B0 B G (some w) s H) (ev : ∀ (s : L2.St) (H0 H : Hp), Same H0 H → Sl H0 G s → Own w H0 H → ∀ Q : Bool → Hp → Prop, (∀ H0' H', Grow H0 H H0' H' → Q b H') → tt s H Q)
    (h1 : b = true → ∀ H', OkS B0 B G (some w) s H' → tu { D with nx := rest D } s H') (h2 : b = false → ∀ H', OkS B0 B G (some w) s H' → rest D s H') : tSeq (tIfS tt tu tNext) rest D s H := by
  obtain ⟨H0, g1, sl, ow⟩ := h.ex
  refine ev s H0 H g1.b sl (OkS.own ow) _ fun H0' H' g => ?_
  have ok : OkS B0 B G (some w) s H' := ⟨H0', g1.trans g, sl.mono g.a, ow.grow g⟩
  cases b with
  | true => exact h1 rfl H' ok
  | false => exact h2 rfl H' ok
end
/-! ### methods -/
abbrev Flds := List (Str × Dn)
def spM (K : PySem.W.Frag) (C : Addr) {A : Type} (fs0 : A → Flds) (args : A → List Dn) (pre : A → Prop) (out : A → Option (Flds × Dn)) : Sp := fun vs H Q E => ∃ H0 a p dx ws, vs = .ref p :: ws ∧ Own (owI p C dx (fs0 a)) H0 H ∧ Same H0 H ∧ pre a ∧ AllH H0 (args a) ws ∧
  (∀ fs d, out a = some (fs, d) → ∀ v H0' H', Grow H0 (del H p) H0' H' → Own (owI p C dx fs) H0' H' → d.holds H0' v → Q v H') ∧
  (out a = none → ∀ (C' : Addr) (d : Option Addr) (H0' H' : Hp), RaisedE K (.ref C') → Grow H0 (del H p) H0' H' → Own (owI p C dx (fs0 a)) H0' H' → E (.ref C') d H')
theorem del_same' {H : Hp} {p : Addr} : Same (del H p) H := fun b o e => (del_of e).2
theorem same_del {H0 H : Hp} {p : Addr} (sm : Same H0 H) (hn : H0 p = none) : Same H0 (del H p) := fun b o e => by
  rw [del_ne (ne_of_none e hn)]
  exact sm _ _ e
section
variable {P : Program} {w : World} {K : PySem.W.Frag} {mg : Str → Option Value} {base : Heap}
theorem dm_X {A : Type} {C : Addr} {fs0 : A → Flds} {args : A → List Dn} {pre : A → Prop} {out : A → Option (Flds × Dn)} {x qual : Str} {params : Arguments} {body : List Stmt} {scope : Scope} {f : Addr} {fd : FuncData} {N ps : List Str} {k : Nat}
    (F : FunD K x qual params body scope [] [] f fd) (S : FnScope N ps scope) (hl : ∀ a, (args a).length + 1 = ps.length)
    (G0 : A → V → Cn) (hG : ∀ a v, some (PV v) :: (args a).map some ++ List.replicate (N.length - ps.length) none = G0 a v)
    (hb : ∀ (cdv : Value) (A' : Around) (outer : List Env) (s : Shared) (H : Hp) (E : XK), Room k (A'.deeper (envOfC qual scope s.heap.objs.size f cdv)) →
      ∃ t, PSs (cxOf (L2.CX P w) P w K mg base N qual scope f cdv A' outer s H E) body t ∧
        ∀ (a : A), pre a → ∀ (B0 B : Hp) (p dx : Addr) (z : L2.St) (D : Ends), OkS B0 B (G0 a (.ref p)) (some (owI p C dx (fs0 a))) z H →
          (∀ fs d, out a = some (fs, d) → ∀ v H0' H', Grow B0 B H0' H' → OwOk (some (owI p C dx fs)) B H0' H' → d.holds H0' v → D.rt v H') →
          (out a = none → ∀ (C' : Addr) (d : Option Addr) (H0' H' : Hp), RaisedE K (.ref C') → Grow B0 B H0' H' → OwOk (some (owI p C dx (fs0 a))) B H0' H' → E (.ref C') d H') → t D z H) :
    FnOk P w K mg base (L2.CX P w) (k + 1) f fd ps (spM K C fs0 args pre out) := by
  refine F.ok S (fun vs H Q E h => ?_) (fun cdv A' outer s H vs Q E hr h => ?_)
  · obtain ⟨H0, a, p, dx, ws, rfl, ow, sm, hpre, hw, _⟩ := h
    rw [List.length_cons, ← hw.len]
    exact hl a
  · obtain ⟨t, ht, q⟩ := hb cdv A' outer s H E hr
    obtain ⟨H0, a, p, dx, ws, rfl, ow, sm, hpre, hw, kk, kx⟩ := h
    refine ⟨t, ht, q a hpre H0 (del H p) p dx _ _ ?_ (fun fs d e v H0' H' gr o hv => kk fs d e v H0' H' gr ⟨o.1, o.2.2⟩ hv) (fun e C' d H0' H' hr gr o => kx e C' d H0' H' hr gr ⟨o.1, o.2.2⟩)⟩
    have hv1 : AllH H0 (PV (.ref p) :: args a) (.ref p :: ws) := ⟨rfl, hw⟩
    have sl := sl_start (N := N) (ps := ps) hv1 (by rw [List.length_cons, ← hw.len]; exact hl a)
    have e : (PV (.ref p) :: args a).map some ++ List.replicate (N.length - ps.length) none = G0 a (.ref p) := hG a (.ref p)
    rw [e] at sl
    exact ⟨H0, ⟨Same.refl _, sm, del_same', fun x h k => absurd h k⟩, sl, ow.n, del_same, ow.o⟩
end
/-- o.m(e, ..): what is wanted of an exception is said by the slots -/
def tMethE (C : Addr) (m : Str) (sp : Sp) (E : L2.St → XK) (ta : TE) (t : TA) : TE := fun σ H Q => ta σ H fun x H1 => ∃ a dx fs, x = .ref a ∧ H1 a = some (.ins C dx fs) ∧ fs.lookup m = none ∧ t σ H1 fun vs H2 => sp (x :: vs) H2 Q (E σ)
section
variable {X : Cx} {CX : CXT} {k : Nat} {f C : Addr} {fd : FuncData} {ps : List Str} {sp : Sp} {E : L2.St → XK} {x m : Str} {p pos apos : Pos} {e o : Expr} {es : List Expr} {ta : TE} {t : TA}
theorem pe_methE {pl : Sem Bool} (he : PE X o ta) (c : Cls X.K C) (hm : Meth X.K C m f) (F : FnOk X.prog X.w X.K X.mg X.base CX k f fd ps sp) (hr : Room k X.A) (hb : Binds X.K fd ps []) (hx : ∀ σ, PassesAt CX X σ (E σ)) (ha : PA X (e :: es) t)
    (hst : starEach (e :: es) X.env = (false, eval e X.env) :: starEach es X.env := by rfl) (hpl : (backTo pos (starEach es X.env)).any (·.1) = false := by rfl)
    (ht : eval (.Call (.Attribute o m apos) (e :: es) [] pos) X.env = (do
      let ov ← eval o X.env
      standAt apos.atName
      let (f, first) ← holding [ov] (getMethod ov m pl)
      callWith pos f first (backTo pos (starEach (e :: es) X.env)) (backToKw pos (keywordEach [] X.env))) := by rfl) :
    PE X (.Call (.Attribute o m apos) (e :: es) [] pos) (tMethE C m sp E ta t) := by
  refine ⟨fun pins s σ H Q I h => ?_⟩
  refine PySem.W.methodCall_KW (pl := pl) (thn (he.run pins s σ H _ I h) fun u s1 ⟨x, H1, I1, rx, a, dx, fs, ex, ea, l, q⟩ => ?_) ht
  subst ex
  obtain rfl : u = Value.ref a := rx
  refine getmeth_ok I1 ea c hm l ?_
  refine PySem.W.callWith_K (first := [.ref a]) (h₀ := X.base) I.ok.mod.kin hm.kp (thn (ha.run pos pins s1 σ H1 _ I1 q) fun us s2 ⟨vs, H2, I2, r, q2⟩ => ⟨I2.kIn, ?_⟩) hst hpl
  exact run_fnS (us := .ref a :: us) (vs := .ref a :: vs) F hr hb (hx σ) I2 (.cons rfl r) q2
theorem pe_methE0 {pl : Sem Bool} (he : PE X o ta) (c : Cls X.K C) (hm : Meth X.K C m f) (F : FnOk X.prog X.w X.K X.mg X.base CX k f fd ps sp) (hr : Room k X.A) (hb : Binds X.K fd ps []) (hx : ∀ σ, PassesAt CX X σ (E σ))
    (ht : eval (.Call (.Attribute o m apos) [] [] pos) X.env = (do
      let ov ← eval o X.env
      standAt apos.atName
      let (f, first) ← holding [ov] (getMethod ov m pl)
      callWith pos f first (backTo pos (starEach [] X.env)) (backToKw pos (keywordEach [] X.env))) := by rfl) :
    PE X (.Call (.Attribute o m apos) [] [] pos) (tMethE C m sp E ta tNil) := by
  refine ⟨fun pins s σ H Q I h => ?_⟩
  refine PySem.W.methodCall_KW (pl := pl) (thn (he.run pins s σ H _ I h) fun u s1 ⟨x, H1, I1, rx, a, dx, fs, ex, ea, l, q⟩ => ?_) ht
  subst ex
  obtain rfl : u = Value.ref a := rx
  refine getmeth_ok I1 ea c hm l ?_
  exact PySem.W.callWith_K0 (first := [.ref a]) I1.kIn hm.kp (run_fnS (us := [.ref a]) (vs := [.ref a]) F hr hb (hx σ) I1 (.cons rfl .nil) q)
end
section
variable {K : PySem.W.Frag} {G : Cn} {ta te : TE} {t : TA} {d : Dn} {B0 B : Hp} {s : L2.St} {H : Hp} {D : Ends} {rest : TS} {C p dx : Addr} {m : Str}
theorem st_retW {w : Ow} (h : OkS B0 B G (some w) s H) (ev : EvG te G d) (k : ∀ v H0' H', Grow B0 B H0' H' → OwOk (some w) B H0' H' → d.holds H0' v → D.rt v H') : tRet te D s H :=
  h.ev ev fun v H0' H' g sl ow hv => k v H0' H' g ow hv
theorem OkS.evM {A : Type} {fs0 : A → Flds} {args : A → List Dn} {pre : A → Prop} {out : A → Option (Flds × Dn)} {E : L2.St → XK} {Q : VK} (x : A) (hp : pre x) (h : OkS B0 B G (some (owI p C dx (fs0 x))) s H) (eo : EvG ta G (PV (.ref p))) (hm : (fs0 x).lookup m = none) (ea : EvA t G (args x))
    (k : ∀ fs d, out x = some (fs, d) → ∀ v H0' H', Grow B0 B H0' H' → Sl H0' G s → OwOk (some (owI p C dx fs)) B H0' H' → d.holds H0' v → Q v H')
    (kx : out x = none → ∀ (C' : Addr) (d : Option Addr) (H' : Hp), RaisedE K (.ref C') → OkS B0 B G (some (owI p C dx (fs0 x))) s H' → E s (.ref C') d H') : tMethE C m (spM K C fs0 args pre out) E ta t s H Q := by
  unfold tMethE
  refine h.ev eo fun v H1 H' g1 sl1 ow1 hv => ?_
  have hv : v = .ref p := hv
  subst hv
  obtain ⟨_, _, o, h3, us, e, h4⟩ := id ow1
  have e : o = .ins C dx us := e
  subst e
  refine ⟨p, dx, us, rfl, h3, h4.lookN hm, ?_⟩
  refine ea s H1 H' g1.b sl1 _ fun vs H2 H'' g2 hvs => ?_
  have ow2 := ow1.grow g2
  have g12 := g1.trans g2
  have hbp : B p = none := ow2.2.1
  have hnp : H2 p = none := ow2.1
  have gg : ∀ {H0' H3 : Hp}, Grow H2 (del H'' p) H0' H3 → Grow B0 B H0' H3 := fun {H0' H3} g => ⟨g12.a.trans g.a, g.b, (fun b o e => g.c _ _ (by rw [del_ne (ne_of_none e hbp)]; exact g12.c _ _ e)), fun y hy hn => by
    cases q : H2 y with
    | some u => exact g12.d y hy (by rw [q]; exact fun z => nomatch z)
    | none =>
      have z := g.d y q hn
      by_cases ey : y = p
      · rw [ey]
        exact hbp
      · rw [del_ne ey] at z
        exact g12.c.free z⟩
  refine ⟨H2, x, p, dx, vs, rfl, ⟨ow2.1, ow2.2.2⟩, g12.b, hp, hvs, fun fs d e v H0' H3 g o hv => ?_, fun e C' d H0' H3 hr g o => ?_⟩
  · exact k fs d e v H0' H3 (gg g) ((sl1.mono g2.a).mono g.a) ⟨o.n, hbp, o.o⟩ hv
  · exact kx e C' d H3 hr ⟨H0', gg g, (sl1.mono g2.a).mono g.a, o.n, hbp, o.o⟩
theorem sq_asgM {A : Type} {fs0 : A → Flds} {args : A → List Dn} {pre : A → Prop} {out : A → Option (Flds × Dn)} {E : L2.St → XK} {i : Nat} (x : A) (hp : pre x) (h : OkS B0 B G (some (owI p C dx (fs0 x))) s H) (eo : EvG ta G (PV (.ref p))) (hm : (fs0 x).lookup m = none) (ea : EvA t G (args x))
    (k : ∀ fs d, out x = some (fs, d) → ∀ s' H', OkS B0 B (G.set i (some d)) (some (owI p C dx fs)) s' H' → rest D s' H')
    (kx : out x = none → ∀ (C' : Addr) (d : Option Addr) (H' : Hp), RaisedE K (.ref C') → OkS B0 B G (some (owI p C dx (fs0 x))) s H' → E s (.ref C') d H') : tSeq (tAsg (tMethE C m (spM K C fs0 args pre out) E ta t) (gName i)) rest D s H :=
  OkS.evM x hp h eo hm ea (fun fs d e v H0' H' g sl ow hv => k fs d e _ _ ⟨H0', g, sl.set hv, ow⟩) kx
end
/-! ### Catalogue -/
structure Bk where
  now : Ct
  ver : Int
  ear : List Ct
abbrev bkF (K : PySem.W.Frag) (b : Bk) : Flds := [("contents", PCt K b.now), ("version", PI b.ver), ("earlier", PL (b.ear.map (PCt K)))]
section
variable {P : Program} {w : World} {K : PySem.W.Frag} {mg : Str → Option Value} {base : Heap} {G : Cn} {ta tb tc td te : TE} {E : XK}
abbrev sp_Catalogue (K : PySem.W.Frag) : Sp := spI (He.ga K "Catalogue") (fun c : Ct => [PCt K c]) (fun _ => True) fun c => bkF K ⟨c, 0, []⟩
theorem d_Catalogue (T : Tx w K mg) : Dc P w K mg base CX0 1 "Catalogue" (He.ga K "Catalogue") ["self", "contents"] [] (sp_Catalogue K) := by
  refine dc_I T.F_Catalogue_init T.g_Catalogue T.mk_Catalogue T.B_Catalogue_init .nil sc_Catalogue_init (fun _ => rfl) (fun c v => [some (PV v), some (PCt K c)]) (fun _ _ => rfl) fun cdv A' outer s H E hr => ⟨_, (pss_cons (ps_fld (pv 0) (pv 1) rfl)
    (pss_cons (ps_fld (pv 0) pe_int rfl)
    (pss_one (ps_fld (pv 0) (pe_lst pa_nil) rfl)))), ?_⟩
  intro a pre B0 B p dx z D ok kn
  refine sq_fld ok (g_var rfl) (g_var rfl) T.cl_Catalogue T.na_Catalogue_contents (Nat.le_of_ble_eq_true rfl) rfl fun H1 ok1 => ?_
  refine sq_fld ok1 g_c (g_var rfl) T.cl_Catalogue T.na_Catalogue_version (Nat.le_of_ble_eq_true rfl) rfl fun H2 ok2 => ?_
  exact st_fld ok2 (g_lst a_nil) (g_var rfl) T.cl_Catalogue T.na_Catalogue_earlier (Nat.le_of_ble_eq_true rfl) rfl fun H3 ok3 => kn _ _ _ ok3
theorem cut_all_ {ds : List Dn} (h : ds.length ≤ 100) : cutD ds (some (-100)) none = ds := by
  unfold cutD HT.sIx
  have e : ((-100 : Int) + (ds.length : Int)).toNat = 0 := by omega
  simp only [show (-100 : Int) < 0 from by decide, if_true, e, List.drop_zero, Nat.sub_zero]
  exact List.take_length
theorem cut_last {ds : List Dn} {d : Dn} : cutD (ds ++ [d]) none (some (-1)) = ds := by
  unfold cutD HT.sIx
  have e : ((-1 : Int) + ((ds ++ [d]).length : Int)).toNat = ds.length := by
    rw [List.length_append, List.length_singleton]
    omega
  simp only [show (-1 : Int) < 0 from by decide, if_true, e, List.drop_zero, Nat.sub_zero]
  exact List.take_left
abbrev edOut (K : PySem.W.Frag) (a : Bk × Ed) : Option (Flds × Dn) := (applyM a.1.now a.2).map fun ct => (bkF K ⟨ct, a.1.ver + 1, a.1.ear ++ [a.1.now]⟩, PTold K a.1.now ct)
abbrev edPre (a : Bk × Ed) : Prop := okAp a.1.now a.2 ∧ a.1.ear.length < 100 ∧ ∀ ct, applyM a.1.now a.2 = some ct → okCt 100 ct
abbrev sp_edit (K : PySem.W.Frag) : Sp := spM K (He.ga K "Catalogue") (fun a : Bk × Ed => bkF K a.1) (fun a => [PEd K a.2]) edPre (edOut K)
theorem d_edit (T : Tx w K mg) (N1 : XNP P w K mg base "NoSuchCraft") (N2 : XNP P w K mg base "NoSuchSite") : FnOk P w K mg base (L2.CX P w) 9 (He.ma K (He.ga K "Catalogue") "edit") (fdf K at_Catalogue_edit) ["self", "edit"] (sp_edit K) := by
  have G_apply_edit := d_apply_edit T N1 N2
  have G_differences := d_differences (P := P) (base := base) T
  obtain ⟨_, m_KEPT⟩ := T.i_KEPT
  refine dm_X T.F_Catalogue_edit sc_Catalogue_edit (fun _ => rfl) (fun a v => [some (PV v), some (PEd K a.2), none, none]) (fun _ _ => rfl) fun cdv A' outer s H E hr => ⟨_, (pss_cons (ps_set (i := 2) sc_Catalogue_edit.nd rfl (by first | exact Or.inl rfl | exact Or.inr rfl) (pe_dX G_apply_edit hr (passX rfl rfl rfl rfl) (pa_cons (pe_fld (pv 0) rfl) (pa_cons (pv 1) pa_nil))))
    (pss_cons (ps_set (i := 3) sc_Catalogue_edit.nd rfl (by first | exact Or.inl rfl | exact Or.inr rfl) (pe_d G_differences hr (pa_cons (pe_fld (pv 0) rfl) (pa_cons (pv 2) pa_nil))))
    (pss_cons (ps_fld (pv 0) (pe_slice sl_list (pe_op op_cat (pe_fld (pv 0) rfl) (pe_lst (pa_cons (pe_fld (pv 0) rfl) pa_nil))) (po_some (pe_un un_neg (pe_glob (v := .int _) rfl m_KEPT ⟨_, rfl⟩))) po_none) rfl)
    (pss_cons (ps_fld (pv 0) (pv 2) rfl)
    (pss_cons (ps_fldaug (pv 0) pe_int in_add)
    (pss_one (ps_ret (pv 3)))))))), ?_⟩
  intro a pre B0 B p dx z D ok kr ke
  obtain ⟨b, e⟩ := a
  obtain ⟨p1, p2, p3⟩ := pre
  have p2 : b.ear.length < 100 := p2
  refine sq_asgWX ok (w_callX (args := fun a : Ct × Ed => [PCt K a.1, PEd K a.2]) (res := fun a : Ct × Ed => resC K (applyM a.1 a.2)) (b.now, e) p1 (w_cons (w_own (g_var rfl) T.cl_Catalogue T.na_Catalogue_contents rfl) (w_cons (w_of (g_var rfl)) w_nil))) (fun h => ke ?_) fun d h z1 H1 ok1 => ?_
  · show (applyM b.now e).map _ = none
    rw [Option.map_eq_none_iff.mp h]
    rfl
  obtain ⟨ct, hc, rfl⟩ := Option.map_eq_some_iff.mp h
  refine sq_asgW ok1 (w_callF (args := fun a : Ct × Ct => [PCt K a.1, PCt K a.2]) (res := fun a : Ct × Ct => PTold K a.1 a.2) (b.now, ct) ⟨p1.1, p3 ct hc⟩ (w_cons (w_own (g_var rfl) T.cl_Catalogue T.na_Catalogue_contents rfl) (w_cons (w_of (g_var rfl)) w_nil))) fun z2 H2 ok2 => ?_
  refine sq_fldW ok2 (EvW.is (d' := PL ((b.ear ++ [b.now]).map (PCt K))) (w_sl (lo := some (-100)) (hi := none) (w_op (w_own (g_var rfl) T.cl_Catalogue T.na_Catalogue_earlier rfl) (w_lst (w_cons (w_own (g_var rfl) T.cl_Catalogue T.na_Catalogue_contents rfl) w_nil)) (r_cat ?_)) (fun s H Q h => ⟨_, rfl, _, rfl, h⟩) (fun s H Q h => h)) ?_) (g_var rfl) T.cl_Catalogue T.na_Catalogue_earlier (Nat.le_of_ble_eq_true rfl) rfl fun H3 ok3 => ?_
  · rw [List.length_map, List.length_singleton]
    omega
  · rw [cut_all_ (by rw [List.length_append, List.length_map, List.length_singleton]; omega), List.map_append]
    rfl
  refine sq_fld ok3 (g_var rfl) (g_var rfl) T.cl_Catalogue T.na_Catalogue_contents (Nat.le_of_ble_eq_true rfl) rfl fun H4 ok4 => ?_
  refine sq_fldaug ok4 g_c (g_var rfl) T.cl_Catalogue T.na_Catalogue_version rfl (Nat.le_of_ble_eq_true rfl) rfl fun H5 ok5 => ?_
  exact st_retW ok5 (g_var rfl) (kr _ _ (by show (applyM b.now e).map _ = _; rw [hc]; rfl))
structure UnA where
  now : Ct
  ver : Int
  es : List Ct
  lc : Option Ct
abbrev unB (a : UnA) : Bk := ⟨a.now, a.ver, a.es ++ a.lc.toList⟩
def unOut (K : PySem.W.Frag) (a : UnA) : Option (Flds × Dn) := match a.lc with
  | none => some (bkF K ⟨a.now, a.ver, []⟩, PN)
  | some c => some (bkF K ⟨c, a.ver + 1, a.es⟩, PTold K a.now c)
structure unPre (a : UnA) : Prop where
  n : a.lc = none → a.es = []
  s : ∀ c, a.lc = some c → okDf a.now c
abbrev sp_undo (K : PySem.W.Frag) : Sp := spM K (He.ga K "Catalogue") (fun a : UnA => bkF K (unB a)) (fun _ => []) unPre (unOut K)
theorem r_ixLast {ds : List Dn} {d : Dn} : R2G (rIxL K) (PL (ds ++ [d])) (PI (-1)) d := fun x y H0 H sm ⟨p, vs, ex, hs, ha⟩ hy Q k => by
  have hl := ha.len
  rw [List.length_append, List.length_singleton] at hl
  obtain ⟨v, h1, h2⟩ := ha.get (i := ds.length) (d := d) (by rw [List.getElem?_append_right (Nat.le_refl _), Nat.sub_self]; rfl)
  have e : vs = vs.take ds.length ++ [v] := by
    have e1 := take_at h1
    rw [← e1, hl, List.take_length]
  exact ⟨p, vs, -1, v, ex, hy, SqL.of (sm _ _ hs), by rw [e]; exact atI_last _ _, k v H0 H (.refl sm) h2⟩
theorem d_undo (T : Tx w K mg) : FnOk P w K mg base (L2.CX P w) 9 (He.ma K (He.ga K "Catalogue") "undo") (fdf K at_Catalogue_undo) ["self"] (sp_undo K) := by
  have G_differences := d_differences (P := P) (base := base) T
  refine dm_X T.F_Catalogue_undo sc_Catalogue_undo (fun _ => rfl) (fun a v => [some (PV v), none, none]) (fun _ _ => rfl) fun cdv A' outer s H E hr => ⟨_, (pss_cons (ps_if (pt_not (pt_truth (pe_fld (pv 0) rfl) (by intro _; rfl))) (pss_one (ps_ret pe_non)) pss_nil)
    (pss_cons (ps_set (i := 1) sc_Catalogue_undo.nd rfl (by first | exact Or.inl rfl | exact Or.inr rfl) (pe_ix ix_list (pe_fld (pv 0) rfl) (pe_un un_neg pe_int) (fun _ _ => rfl)))
    (pss_cons (ps_set (i := 2) sc_Catalogue_undo.nd rfl (by first | exact Or.inl rfl | exact Or.inr rfl) (pe_d G_differences hr (pa_cons (pe_fld (pv 0) rfl) (pa_cons (pv 1) pa_nil))))
    (pss_cons (ps_fld (pv 0) (pe_slice sl_list (pe_fld (pv 0) rfl) po_none (po_some (pe_un un_neg pe_int))) rfl)
    (pss_cons (ps_fld (pv 0) (pv 1) rfl)
    (pss_cons (ps_fldaug (pv 0) pe_int in_add)
    (pss_one (ps_ret (pv 2))))))))), ?_⟩
  intro a pre B0 B p dx z D ok kr ke
  obtain ⟨now, ver, es, lc⟩ := a
  obtain ⟨pn, ps⟩ := pre
  cases lc with
  | none =>
    have pn : es = [] := pn rfl
    subst pn
    refine sq_ifW (b := true) ok (fun s H0 H sm sl ow Q q => t_truW (w_own (d := PL []) (g_var rfl) T.cl_Catalogue T.na_Catalogue_earlier rfl) s H0 H sm sl ow _ fun H0' H' g => q H0' H' g) (fun hb H1 ok1 => ?_) fun hb => nomatch hb
    exact st_retW ok1 g_c (kr _ _ rfl)
  | some c =>
    have ps : okDf now c := ps c rfl
    have e0 : (es ++ [c]).map (PCt K) = es.map (PCt K) ++ [PCt K c] := List.map_append
    have ok : OkS B0 B [some (PV (.ref p)), none, none] (some (owI p (He.ga K "Catalogue") dx [("contents", PCt K now), ("version", PI ver), ("earlier", PL ((es ++ [c]).map (PCt K)))])) z H := ok
    rw [e0] at ok
    refine sq_ifW (b := false) ok (fun s H0 H sm sl ow Q q => t_truW (w_own (d := PL (es.map (PCt K) ++ [PCt K c])) (g_var rfl) T.cl_Catalogue T.na_Catalogue_earlier rfl) s H0 H sm sl ow _ fun H0' H' g => ?_) (fun hb => nomatch hb) fun hb H1 ok1 => ?_
    · have q := q H0' H' g
      cases es <;> exact q
    refine sq_asgW ok1 (w_op (w_own (g_var rfl) T.cl_Catalogue T.na_Catalogue_earlier rfl) (w_of (g_U g_c)) r_ixLast) fun z2 H2 ok2 => ?_
    refine sq_asgW ok2 (w_callF (args := fun a : Ct × Ct => [PCt K a.1, PCt K a.2]) (res := fun a : Ct × Ct => PTold K a.1 a.2) (now, c) ps (w_cons (w_own (g_var rfl) T.cl_Catalogue T.na_Catalogue_contents rfl) (w_cons (w_of (g_var rfl)) w_nil))) fun z3 H3 ok3 => ?_
    refine sq_fldW ok3 (EvW.is (d' := PL (es.map (PCt K))) (w_sl (lo := none) (hi := some (-1)) (w_own (g_var rfl) T.cl_Catalogue T.na_Catalogue_earlier rfl) (fun s H Q h => h) (fun s H Q h => ⟨_, rfl, _, rfl, h⟩)) (congrArg PL cut_last)) (g_var rfl) T.cl_Catalogue T.na_Catalogue_earlier (Nat.le_of_ble_eq_true rfl) rfl fun H4 ok4 => ?_
    refine sq_fld ok4 (g_var rfl) (g_var rfl) T.cl_Catalogue T.na_Catalogue_contents (Nat.le_of_ble_eq_true rfl) rfl fun H5 ok5 => ?_
    refine sq_fldaug ok5 g_c (g_var rfl) T.cl_Catalogue T.na_Catalogue_version rfl (Nat.le_of_ble_eq_true rfl) rfl fun H6 ok6 => ?_
    exact st_retW ok6 (g_var rfl) (kr _ _ rfl)
end
end K9
set_option Elab.async false
set_option linter.all false
set_option maxRecDepth 100000
set_option maxHeartbeats 4000000
/-! K9Db: saving. -/
namespace K9
open PySem PySem.Spec PyProof.Rows L2
/-! ### the mirror -/
def tsI (i : Int) : Str := Str.ofString (toString i)
def lineOf (ws : List Str) : Str := Txt.join " " ws ++ "\n"
abbrev boxN (b : Box) : List Int := [b.1.1, b.1.2, b.2.1.1, b.2.1.2, b.2.2.1, b.2.2.2]
def crLines (c : Cr) : List Str := [lineOf ["craft", c.name, tsI c.start, tsI c.drift], lineOf ("place" :: (boxN c.place).map tsI), lineOf ("speed" :: (boxN c.speed).map tsI)]
abbrev bdN (b : Bd) : List Int := [b.mu, b.obl, b.turn.1, b.turn.2.1, b.turn.2.2]
def headL (c : Ct) : List Str := ["orrery contents" ++ "\n", lineOf ("body" :: (bdN c.body).map tsI), lineOf ["stride", tsI c.stride], lineOf ["fineness", tsI c.fine]]
def savedT (c : Ct) : Str := Txt.join "" (headL c ++ c.crafts.flatMap crLines)
abbrev sm62 (i : Int) : Prop := i.natAbs.log2 < 1920
theorem sm_of {n : Nat} {i : Int} (h : bd n i) (hn : n ≤ 1900) : sm62 i := by
  have h1 := PySem.Flt.log2_lt_of (Nat.succ_pos n) (h.mono (Nat.le_succ n))
  show i.natAbs.log2 < 1920
  omega
theorem ts_len {i : Int} (h : sm62 i) : (tsI i).length ≤ 2000 := Nat.le_trans (PyProof.Rows.int_text_len_1921 h) (by decide)
theorem len_app (a b : Str) : (a ++ b).length = a.length + b.length := by
  show (a.cps ++ b.cps).size = _
  rw [Array.size_append]
  rfl
theorem join_len (y : Str) : ∀ ws : List Str, (Txt.join y ws).length ≤ (ws.map (·.length)).sum + ws.length * y.length := by
  have key : ∀ ws : List Str, (Str.join y ws).length ≤ (ws.map (·.length)).sum + ws.length * y.length := by
    intro ws
    induction ws with
    | nil => exact Nat.zero_le _
    | cons x r ih =>
      cases r with
      | nil =>
        show x.length ≤ (x.length + 0) + 1 * y.length
        omega
      | cons z r =>
        show (x ++ y ++ Str.join y (z :: r)).length ≤ _
        rw [len_app, len_app, List.map_cons, List.sum_cons, List.length_cons, Nat.succ_mul]
        omega
  intro ws
  rw [TL.join_eq]
  exact key ws
abbrev okWs (ws : List Str) : Prop := ws.length ≤ 20 ∧ ∀ x ∈ ws, x.length ≤ 2000
theorem sum_le {ws : List Str} {n : Nat} (h : ∀ x ∈ ws, x.length ≤ n) : (ws.map (·.length)).sum ≤ ws.length * n := by
  induction ws with
  | nil => exact Nat.zero_le _
  | cons x r ih =>
    rw [List.map_cons, List.sum_cons, List.length_cons, Nat.succ_mul]
    have h1 := h x List.mem_cons_self
    have h2 := ih fun z hz => h z (List.mem_cons_of_mem _ hz)
    omega
theorem okWs.sum {ws : List Str} (h : okWs ws) : (ws.map (·.length)).sum ≤ 40000 := by
  have h1 := sum_le h.2
  have h2 := Nat.mul_le_mul_right 2000 h.1
  omega
theorem line_len {ws : List Str} (h : okWs ws) : (lineOf ws).length ≤ 41000 := by
  unfold lineOf
  rw [len_app]
  have h1 := join_len " " ws
  have h2 := h.sum
  have h3 : (" " : Str).length = 1 := by decide
  have h4 : ("\n" : Str).length = 1 := by decide
  rw [h3] at h1
  have h5 := h.1
  omega
section
variable {K : PySem.W.Frag} {G : Cn} {ta tl : TE}
theorem g_join {a : Str} {ws : List Str} (hl : EvG tl G (PL (ws.map fun x => PS x))) (h : (ws.map (·.length)).sum + ws.length * a.length ≤ 16777216) : EvG (tM1 (fun x xs H Q => ∃ a p, ∃ ys : List Str, x = V.str a ∧ xs = [V.ref p] ∧ (SqL K H p (ys.map V.str) ∨ SqT K H p (ys.map V.str)) ∧
      (ys.map (·.length)).sum + ys.length * a.length ≤ 16777216 ∧ Q (.str (Txt.join a ys)) H) (tC (.str a)) tl) G (PS (Txt.join a ws)) := fun s H0 H sm sl Q k =>
  ⟨⟨a, rfl⟩, hl s H0 H sm sl _ fun v H1 H' g ⟨p, vs, e, hv, ha⟩ => by
    have e2 : vs = ws.map V.str := by
      have e3 : (ws.map fun x => PS x) = (ws.map V.str).map PV := by rw [List.map_map]; rfl
      rw [e3] at ha
      exact ha.pv
    subst e e2
    exact ⟨a, p, ws, rfl, rfl, .inl (SqL.of (g.b _ _ hv)), h, k _ H1 H' g rfl⟩⟩
theorem r_str {i : Int} (h : sm62 i) : RAG (fun xs H Q => ∃ i, xs = [V.int i] ∧ i.natAbs.log2 < 1920 ∧ Q (.str (toString i)) H) [PI i] (PS (tsI i)) := fun xs H0 H sm hx Q k => by
  obtain ⟨v, rfl, e⟩ := all1 hx
  have e : v = .int i := e
  subst e
  exact ⟨i, rfl, h, k _ H0 H (.refl sm) rfl⟩
end
section
variable {P : Program} {w : World} {K : PySem.W.Frag} {mg : Str → Option Value} {base : Heap} {G : Cn} {ta tb tc td te : TE} {E : XK}
abbrev PWs (ws : List Str) : Dn := PL (ws.map fun x => PS x)
abbrev sp_write_line (K : PySem.W.Frag) : Sp := spF (fun ws : List Str => [PWs ws]) okWs fun ws => PS (lineOf ws)
theorem g_write_line {ws : List Str} (ha : EvG ta G (PWs ws)) (h : okWs ws) : EvG (tCall (sp_write_line K) [] E (tCons ta tNil)) G (PS (lineOf ws)) := g_callF (args := fun ws : List Str => [PWs ws]) ws h (a_cons ha a_nil)
theorem d_write_line (T : Tx w K mg) : Df P w K mg base CX0 1 "write_line" ["words"] (sp_write_line K) := by
  refine df_F T.F_write_line T.g_write_line T.B_write_line sc_write_line (fun _ => rfl) (fun a => [some (PWs a)]) (fun _ => rfl) fun cdv A' outer s H E hr => ⟨_, (pss_one (ps_ret (pe_op op_add_str (pe_join pe_str (pv 0)) pe_str))), ?_⟩
  intro ws pre B0 z D ok kr kn
  have h1 := join_len " " ws
  have h2 := pre.sum
  have h3 : (" " : Str).length = 1 := by decide
  have h4 : ("\n" : Str).length = 1 := by decide
  rw [h3] at h1
  have h5 := pre.1
  exact st_ret ok (g_addS (g_join (g_var rfl) (by rw [h3]; omega)) g_c (by rw [h4]; omega)) kr
abbrev PNs (ns : List Int) : Dn := PL (ns.map fun x => PI x)
abbrev sp_box_numbers (K : PySem.W.Frag) : Sp := spF (fun b : Box => [PBox K b]) (fun _ => True) fun b => PNs (boxN b)
theorem g_box_numbers {b : Box} (ha : EvG ta G (PBox K b)) : EvG (tCall (sp_box_numbers K) [] E (tCons ta tNil)) G (PNs (boxN b)) := g_callF (args := fun b : Box => [PBox K b]) b trivial (a_cons ha a_nil)
theorem d_box_numbers (T : Tx w K mg) : Df P w K mg base CX0 1 "box_numbers" ["box"] (sp_box_numbers K) := by
  refine df_F T.F_box_numbers T.g_box_numbers T.B_box_numbers sc_box_numbers (fun _ => rfl) (fun a => [some (PBox K a)]) (fun _ => rfl) fun cdv A' outer s H E hr => ⟨_, (pss_one (ps_ret (pe_lst (pa_cons (pe_ix ix_tup (pe_ix ix_tup (pv 0) pe_int (fun _ _ => rfl)) pe_int (fun _ _ => rfl)) (pa_cons (pe_ix ix_tup (pe_ix ix_tup (pv 0) pe_int (fun _ _ => rfl)) pe_int (fun _ _ => rfl)) (pa_cons (pe_ix ix_tup (pe_ix ix_tup (pv 0) pe_int (fun _ _ => rfl)) pe_int (fun _ _ => rfl)) (pa_cons (pe_ix ix_tup (pe_ix ix_tup (pv 0) pe_int (fun _ _ => rfl)) pe_int (fun _ _ => rfl)) (pa_cons (pe_ix ix_tup (pe_ix ix_tup (pv 0) pe_int (fun _ _ => rfl)) pe_int (fun _ _ => rfl)) (pa_cons (pe_ix ix_tup (pe_ix ix_tup (pv 0) pe_int (fun _ _ => rfl)) pe_int (fun _ _ => rfl)) pa_nil))))))))), ?_⟩
  intro b pre B0 z D ok kr kn
  exact st_ret ok (g_lst (a_cons (g_ixT0 (g_ixT0 (g_var rfl))) (a_cons (g_ixT1 (g_ixT0 (g_var rfl))) (a_cons (g_ixT0 (g_ixT1 (g_var rfl))) (a_cons (g_ixT1 (g_ixT1 (g_var rfl))) (a_cons (g_ixT0 (g_ixT2 (g_var rfl))) (a_cons (g_ixT1 (g_ixT2 (g_var rfl))) a_nil)))))) (Nat.le_of_ble_eq_true rfl)) kr
abbrev sp_texts (K : PySem.W.Frag) : Sp := spF (fun ns : List Int => [PNs ns]) (fun ns => ns.length ≤ 1000 ∧ ∀ n ∈ ns, sm62 n) fun ns => PWs (ns.map tsI)
theorem g_texts {ns : List Int} (ha : EvG ta G (PNs ns)) (h : ns.length ≤ 1000 ∧ ∀ n ∈ ns, sm62 n) : EvG (tCall (sp_texts K) [] E (tCons ta tNil)) G (PWs (ns.map tsI)) := g_callF (args := fun ns : List Int => [PNs ns]) (res := fun ns : List Int => PWs (ns.map tsI)) ns h (a_cons ha a_nil)
theorem d_texts (T : Tx w K mg) : Df P w K mg base CX0 1 "texts" ["numbers"] (sp_texts K) := by
  refine df_F T.F_texts T.g_texts T.B_texts sc_texts (fun _ => rfl) (fun a => [some (PNs a), none]) (fun _ => rfl) fun cdv A' outer s H E hr => ⟨_, (pss_one (ps_ret (pe_lc (own := [("number", 1)]) (g := (gName 1)) rfl sc_texts.nd (pi_list (pv 0)) (blkOk_by (N := N_texts) (sc := defScope S_texts) (by decide +kernel)) (fun _ _ _ _ _ => (pg_name (i := 1) sc_texts.nd rfl (Or.inl rfl))) (fun _ _ _ _ _ => pts_nil) (fun _ _ _ _ _ => (pe_callTy call_str_int rfl T.n_str (by decide +kernel) (pa_cons (pv 1) pa_nil)))))), ?_⟩
  intro ns pre B0 z D ok kr kn
  have h1 : ns.length ≤ 1000 := pre.1
  exact st_retE ok (g_lcL0 (vs := [1]) ns (fun i => PI i) (fun i => PS (tsI i)) (fun i => [some (PNs ns), some (PI i)]) (g_var rfl) (by omega) (fun _ _ => tc_name) (fun i hi => g_cb (a_cons (g_var rfl) a_nil) (r_str (pre.2 i hi)))) (congrArg PL mapc.symm) kr
theorem box_sm {b : Box} (h : bB 134 b) : ∀ n ∈ boxN b, sm62 n := fun n hn => by
  obtain ⟨⟨h1, h2⟩, ⟨h3, h4⟩, h5, h6⟩ := h
  have hn : n = b.1.1 ∨ n = b.1.2 ∨ n = b.2.1.1 ∨ n = b.2.1.2 ∨ n = b.2.2.1 ∨ n = b.2.2.2 := by simpa using hn
  rcases hn with rfl | rfl | rfl | rfl | rfl | rfl <;> exact sm_of (by assumption) (by decide)
theorem okWs_ts {x : Str} {ns : List Int} (hx : x.length ≤ 2000) (hl : ns.length ≤ 10) (h : ∀ n ∈ ns, sm62 n) : okWs (x :: ns.map tsI) := ⟨by rw [List.length_cons, List.length_map]; omega, fun y hy => by
  rcases List.mem_cons.mp hy with e | hy
  · rw [e]
    exact hx
  · obtain ⟨n, hn, e⟩ := List.mem_map.mp hy
    rw [← e]
    exact ts_len (h n hn)⟩
theorem t_sm {i : Int} (h : okT i) : sm62 i := sm_of (n := 20) (by unfold bd; omega) (by decide)
theorem g_pref {x : Str} {ws : List Str} (hb : EvG tb G (PWs ws)) (hl : ws.length ≤ 100) : EvG (tOp rCat (tLst (tCons (tC (.str x)) tNil)) tb) G (PWs (x :: ws)) := g_op (g_lst (a_cons (d := PS x) g_c a_nil) (Nat.le_of_ble_eq_true rfl)) hb (r_cat (by rw [List.length_map, List.length_singleton]; omega))
abbrev bare (c : Cr) : Prop := okCr c ∧ c.burns = [] ∧ c.sights = []
theorem crL1 {c : Cr} (h : okCr c) : okWs ["craft", c.name, tsI c.start, tsI c.drift] := ⟨by show 4 ≤ 20; decide, fun y hy => by
  have hd : sm62 c.drift := sm_of (n := 60) (by have h1 := h.d.1; have h2 : c.drift ≤ 1000000000000 := h.d.2; unfold bd; omega) (by decide)
  have hy : y = "craft" ∨ y = c.name ∨ y = tsI c.start ∨ y = tsI c.drift := by simpa using hy
  rcases hy with rfl | rfl | rfl | rfl
  · decide
  · rw [h.n.len]
    decide
  · exact ts_len (t_sm h.t)
  · exact ts_len hd⟩
abbrev sp_craft_lines (K : PySem.W.Frag) : Sp := spF (fun c : Cr => [PCr K c]) bare fun c => PWs (crLines c)
theorem g_craft_lines {c : Cr} (ha : EvG ta G (PCr K c)) (h : bare c) : EvG (tCall (sp_craft_lines K) [] E (tCons ta tNil)) G (PWs (crLines c)) := g_callF (args := fun c : Cr => [PCr K c]) (res := fun c => PWs (crLines c)) c h (a_cons ha a_nil)
theorem d_craft_lines (T : Tx w K mg) : Df P w K mg base CX0 2 "craft_lines" ["craft"] (sp_craft_lines K) := by
  have G_write_line := d_write_line (P := P) (base := base) T
  have G_texts := d_texts (P := P) (base := base) T
  have G_box_numbers := d_box_numbers (P := P) (base := base) T
  refine df_F T.F_craft_lines T.g_craft_lines T.B_craft_lines sc_craft_lines (fun _ => rfl) (fun a => [some (PCr K a), none, none, none]) (fun _ => rfl) fun cdv A' outer s H E hr => ⟨_, (pss_cons (ps_set (i := 1) sc_craft_lines.nd rfl (by first | exact Or.inl rfl | exact Or.inr rfl) (pe_lst (pa_cons (pe_d G_write_line hr (pa_cons (pe_lst (pa_cons pe_str (pa_cons (pe_fld (pv 0) rfl) (pa_cons (pe_callTy call_str_int rfl T.n_str (by decide +kernel) (pa_cons (pe_fld (pv 0) rfl) pa_nil)) (pa_cons (pe_callTy call_str_int rfl T.n_str (by decide +kernel) (pa_cons (pe_fld (pv 0) rfl) pa_nil)) pa_nil))))) pa_nil)) pa_nil)))
    (pss_cons (ps_expr (pe_bm PySem.F.plainAttrs_list PySem.F.slot_list_append PySem.F.type_list_append mt_append (pv 1) (pa_cons (pe_d G_write_line hr (pa_cons (pe_op op_cat (pe_lst (pa_cons pe_str pa_nil)) (pe_d G_texts hr (pa_cons (pe_d G_box_numbers hr (pa_cons (pe_fld (pv 0) rfl) pa_nil)) pa_nil))) pa_nil)) pa_nil)))
    (pss_cons (ps_expr (pe_bm PySem.F.plainAttrs_list PySem.F.slot_list_append PySem.F.type_list_append mt_append (pv 1) (pa_cons (pe_d G_write_line hr (pa_cons (pe_op op_cat (pe_lst (pa_cons pe_str pa_nil)) (pe_d G_texts hr (pa_cons (pe_d G_box_numbers hr (pa_cons (pe_fld (pv 0) rfl) pa_nil)) pa_nil))) pa_nil)) pa_nil)))
    (pss_cons (ps_for PassesOwn.never rfl (pi_tup (pe_fld (pv 0) rfl)) (pg_name (i := 2) sc_craft_lines.nd rfl (by first | exact Or.inl rfl | exact Or.inr rfl)) (pss_one (ps_expr (pe_bm PySem.F.plainAttrs_list PySem.F.slot_list_append PySem.F.type_list_append mt_append (pv 1) (pa_cons (pe_d G_write_line hr (pa_cons (pe_op op_cat (pe_lst (pa_cons pe_str pa_nil)) (pe_d G_texts hr (pa_cons (pe_op op_cat (pe_lst (pa_cons (pe_fld (pv 2) rfl) (pa_cons (pe_fld (pv 2) rfl) pa_nil))) (pe_d G_box_numbers hr (pa_cons (pe_fld (pv 2) rfl) pa_nil))) pa_nil))) pa_nil)) pa_nil)))))
    (pss_cons (ps_for PassesOwn.never rfl (pi_tup (pe_fld (pv 0) rfl)) (pg_name (i := 3) sc_craft_lines.nd rfl (by first | exact Or.inl rfl | exact Or.inr rfl)) (pss_one (ps_expr (pe_bm PySem.F.plainAttrs_list PySem.F.slot_list_append PySem.F.type_list_append mt_append (pv 1) (pa_cons (pe_d G_write_line hr (pa_cons (pe_op op_cat (pe_lst (pa_cons pe_str pa_nil)) (pe_d G_texts hr (pa_cons (pe_op op_cat (pe_lst (pa_cons (pe_fld (pv 3) rfl) pa_nil)) (pe_d G_box_numbers hr (pa_cons (pe_fld (pv 3) rfl) pa_nil))) pa_nil))) pa_nil)) pa_nil)))))
    (pss_one (ps_ret (pv 1)))))))), ?_⟩
  intro c pre B0 z D ok kr kn
  obtain ⟨p1, p2, p3⟩ := pre
  have hd : sm62 c.drift := sm_of (n := 60) (by have h1 := p1.d.1; have h2 : c.drift ≤ 1000000000000 := p1.d.2; unfold bd; omega) (by decide)
  have bp := box_sm (gB_v p1.p (by decide)).2
  have bs := box_sm (gB_v p1.s (by decide)).2
  have hn : ∀ b : Box, (boxN b).length = 6 := fun b => rfl
  refine sq_own ok (a_cons (g_write_line (ws := ["craft", c.name, tsI c.start, tsI c.drift]) (g_lst (a_cons g_c (a_cons (g_fld (g_var rfl) T.cl_Craft T.na_Craft_name rfl) (a_cons (g_cb (a_cons (g_fld (g_var rfl) T.cl_Craft T.na_Craft_start rfl) a_nil) (r_str (t_sm p1.t))) (a_cons (g_cb (a_cons (g_fld (g_var rfl) T.cl_Craft T.na_Craft_drift rfl) a_nil) (r_str hd)) a_nil)))) (Nat.le_of_ble_eq_true rfl)) (crL1 p1)) a_nil) (fun l z1 H1 ok1 => ?_) (Nat.le_of_ble_eq_true rfl)
  refine sq_app ok1 (g_var rfl) (g_write_line (ws := "place" :: (boxN c.place).map tsI) (g_pref (g_texts (g_box_numbers (g_fld (g_var rfl) T.cl_Craft T.na_Craft_place rfl)) ⟨by rw [hn]; decide, bp⟩) (by rw [List.length_map, hn]; decide)) (okWs_ts (by decide) (by rw [hn]; decide) bp)) (Nat.le_of_ble_eq_true rfl) fun H2 ok2 => ?_
  refine sq_app ok2 (g_var rfl) (g_write_line (ws := "speed" :: (boxN c.speed).map tsI) (g_pref (g_texts (g_box_numbers (g_fld (g_var rfl) T.cl_Craft T.na_Craft_speed rfl)) ⟨by rw [hn]; decide, bs⟩) (by rw [List.length_map, hn]; decide)) (okWs_ts (by decide) (by rw [hn]; decide) bs)) (Nat.le_of_ble_eq_true rfl) fun H3 ok3 => ?_
  have e1 : PT K (c.burns.map (PBu K)) = PT K [] := by rw [p2]; rfl
  have e2 : PT K (c.sights.map (PSg K)) = PT K [] := by rw [p3]; rfl
  refine sq (st_forT ok3 (ds := []) ((g_fld (g_var rfl) T.cl_Craft T.na_Craft_burns rfl).is e1) (fun _ => [some (PCr K c), some (PV (.ref l)), none, none]) (fun _ => []) (fun _ => some (owL l [PS (lineOf ["craft", c.name, tsI c.start, tsI c.drift]), PS (lineOf ("place" :: (boxN c.place).map tsI)), PS (lineOf ("speed" :: (boxN c.speed).map tsI))])) rfl rfl (fun i d hd => by simp at hd) (fun C0 C up i d hd => by simp at hd) (fun s' H' ok4 => ?_))
  refine sq (st_forT ok4 (ds := []) ((g_fld (g_var rfl) T.cl_Craft T.na_Craft_sightings rfl).is e2) (fun _ => [some (PCr K c), some (PV (.ref l)), none, none]) (fun _ => []) (fun _ => some (owL l [PS (lineOf ["craft", c.name, tsI c.start, tsI c.drift]), PS (lineOf ("place" :: (boxN c.place).map tsI)), PS (lineOf ("speed" :: (boxN c.speed).map tsI))])) rfl rfl (fun i d hd => by simp at hd) (fun C0 C up i d hd => by simp at hd) (fun s' H' ok5 => ?_))
  have ok6 := OkS.freezeL (i := 1) ok5 rfl
  exact st_ret ok6 (g_var rfl) kr
abbrev hdPre (c : Ct) : Prop := okBdy c.body ∧ okSF c
theorem bd_sm {b : Bd} (h : okBdy b) : ∀ n ∈ bdN b, sm62 n := fun n hn => by
  have h1 := h.bd
  have h2 := h.x
  have h3 := h.n
  have hn : n = b.mu ∨ n = b.obl ∨ n = b.turn.1 ∨ n = b.turn.2.1 ∨ n = b.turn.2.2 := by simpa using hn
  rcases hn with rfl | rfl | rfl | rfl | rfl
  · exact sm_of h1.1 (by decide)
  · exact sm_of h1.2 (by decide)
  · exact sm_of h2.1 (by decide)
  · exact sm_of h2.2 (by decide)
  · exact sm_of (n := 30) (by unfold bd; omega) (by decide)
abbrev sp_head_lines (K : PySem.W.Frag) : Sp := spF (fun c : Ct => [PCt K c]) hdPre fun c => PWs (headL c)
theorem g_head_lines {c : Ct} (ha : EvG ta G (PCt K c)) (h : hdPre c) : EvG (tCall (sp_head_lines K) [] E (tCons ta tNil)) G (PWs (headL c)) := g_callF (args := fun c : Ct => [PCt K c]) (res := fun c => PWs (headL c)) c h (a_cons ha a_nil)
theorem okWs2 {x : Str} {i : Int} (hx : x.length ≤ 2000) (h : sm62 i) : okWs [x, tsI i] := ⟨by show 2 ≤ 20; decide, fun y hy => by
  have hy : y = x ∨ y = tsI i := by simpa using hy
  rcases hy with rfl | rfl
  · exact hx
  · exact ts_len h⟩
theorem d_head_lines (T : Tx w K mg) : Df P w K mg base CX0 2 "head_lines" ["contents"] (sp_head_lines K) := by
  have G_write_line := d_write_line (P := P) (base := base) T
  have G_texts := d_texts (P := P) (base := base) T
  obtain ⟨_, m_HEAD⟩ := T.i_HEAD
  refine df_F T.F_head_lines T.g_head_lines T.B_head_lines sc_head_lines (fun _ => rfl) (fun a => [some (PCt K a), none, none, none, none, none]) (fun _ => rfl) fun cdv A' outer s H E hr => ⟨_, (pss_cons (ps_set (i := 1) sc_head_lines.nd rfl (by first | exact Or.inl rfl | exact Or.inr rfl) (pe_fld (pv 0) rfl))
    (pss_cons (ps_asg (pe_fld (pv 1) rfl) (pg_tup rfl (pgs_cons (pg_name (i := 2) sc_head_lines.nd rfl (by first | exact Or.inl rfl | exact Or.inr rfl)) (pgs_cons (pg_name (i := 3) sc_head_lines.nd rfl (by first | exact Or.inl rfl | exact Or.inr rfl)) (pgs_cons (pg_name (i := 4) sc_head_lines.nd rfl (by first | exact Or.inl rfl | exact Or.inr rfl)) pgs_nil)))))
    (pss_cons (ps_set (i := 5) sc_head_lines.nd rfl (by first | exact Or.inl rfl | exact Or.inr rfl) (pe_lst (pa_cons (pe_op op_add_str (pe_glob (v := .str _) rfl m_HEAD ⟨_, rfl⟩) pe_str) pa_nil)))
    (pss_cons (ps_expr (pe_bm PySem.F.plainAttrs_list PySem.F.slot_list_append PySem.F.type_list_append mt_append (pv 5) (pa_cons (pe_d G_write_line hr (pa_cons (pe_op op_cat (pe_lst (pa_cons pe_str pa_nil)) (pe_d G_texts hr (pa_cons (pe_lst (pa_cons (pe_fld (pv 1) rfl) (pa_cons (pe_fld (pv 1) rfl) (pa_cons (pv 2) (pa_cons (pv 3) (pa_cons (pv 4) pa_nil)))))) pa_nil))) pa_nil)) pa_nil)))
    (pss_cons (ps_expr (pe_bm PySem.F.plainAttrs_list PySem.F.slot_list_append PySem.F.type_list_append mt_append (pv 5) (pa_cons (pe_d G_write_line hr (pa_cons (pe_lst (pa_cons pe_str (pa_cons (pe_callTy call_str_int rfl T.n_str (by decide +kernel) (pa_cons (pe_fld (pv 0) rfl) pa_nil)) pa_nil))) pa_nil)) pa_nil)))
    (pss_cons (ps_expr (pe_bm PySem.F.plainAttrs_list PySem.F.slot_list_append PySem.F.type_list_append mt_append (pv 5) (pa_cons (pe_d G_write_line hr (pa_cons (pe_lst (pa_cons pe_str (pa_cons (pe_callTy call_str_int rfl T.n_str (by decide +kernel) (pa_cons (pe_fld (pv 0) rfl) pa_nil)) pa_nil))) pa_nil)) pa_nil)))
    (pss_one (ps_ret (pv 5))))))))), ?_⟩
  intro c pre B0 z D ok kr kn
  obtain ⟨p1, p2, p3⟩ := pre
  have bs := bd_sm p1
  have hst : sm62 c.stride := sm_of (n := 20) (by unfold bd; omega) (by decide)
  have hfi : sm62 c.fine := sm_of (n := 20) (by unfold bd; omega) (by decide)
  refine sq_asg ok (g_fld (g_var rfl) T.cl_Contents T.na_Contents_body rfl) fun z1 H1 ok1 => ?_
  refine sq_asgT ok1 (g_fld (g_var rfl) T.cl_Body T.na_Body_turn rfl) (tg_tup (tgs_cons tg_name (tgs_cons tg_name (tgs_cons tg_name tgs_nil)))) fun z2 H2 ok2 => ?_
  refine sq_own ok2 (a_cons (g_addS g_c g_c (by decide)) a_nil) (fun l z3 H3 ok3 => ?_) (Nat.le_of_ble_eq_true rfl)
  refine sq_app ok3 (g_var rfl) (g_write_line (ws := "body" :: (bdN c.body).map tsI) (g_pref (g_texts (ns := bdN c.body) (g_lst (a_cons (g_fld (g_var rfl) T.cl_Body T.na_Body_mu rfl) (a_cons (g_fld (g_var rfl) T.cl_Body T.na_Body_oblateness rfl) (a_cons (g_var rfl) (a_cons (g_var rfl) (a_cons (g_var rfl) a_nil))))) (Nat.le_of_ble_eq_true rfl)) ⟨Nat.le_of_ble_eq_true rfl, bs⟩) (Nat.le_of_ble_eq_true rfl)) (okWs_ts (by decide) (Nat.le_of_ble_eq_true rfl) bs)) (Nat.le_of_ble_eq_true rfl) fun H4 ok4 => ?_
  refine sq_app ok4 (g_var rfl) (g_write_line (ws := ["stride", tsI c.stride]) (g_lst (a_cons g_c (a_cons (g_cb (a_cons (g_fld (g_var rfl) T.cl_Contents T.na_Contents_stride rfl) a_nil) (r_str hst)) a_nil)) (Nat.le_of_ble_eq_true rfl)) (okWs2 (by decide) hst)) (Nat.le_of_ble_eq_true rfl) fun H5 ok5 => ?_
  refine sq_app ok5 (g_var rfl) (g_write_line (ws := ["fineness", tsI c.fine]) (g_lst (a_cons g_c (a_cons (g_cb (a_cons (g_fld (g_var rfl) T.cl_Contents T.na_Contents_fineness rfl) a_nil) (r_str hfi)) a_nil)) (Nat.le_of_ble_eq_true rfl)) (okWs2 (by decide) hfi)) (Nat.le_of_ble_eq_true rfl) fun H6 ok6 => ?_
  have ok7 := OkS.freezeL (i := 5) ok6 rfl
  exact st_ret ok7 (g_var rfl) kr
abbrev svPre (c : Ct) : Prop := hdPre c ∧ (∀ x ∈ c.crafts, bare x) ∧ c.sites = [] ∧ c.crafts.length ≤ 100
abbrev sp_saved_text (K : PySem.W.Frag) : Sp := spF (fun c : Ct => [PCt K c]) svPre fun c => PS (savedT c)
theorem g_saved_text {c : Ct} (ha : EvG ta G (PCt K c)) (h : svPre c) : EvG (tCall (sp_saved_text K) [] E (tCons ta tNil)) G (PS (savedT c)) := g_callF (args := fun c : Ct => [PCt K c]) (res := fun c => PS (savedT c)) c h (a_cons ha a_nil)
theorem crLines_len {c : Cr} (h : okCr c) : ∀ x ∈ crLines c, x.length ≤ 41000 := fun x hx => by
  have hx : x = lineOf ["craft", c.name, tsI c.start, tsI c.drift] ∨ x = lineOf ("place" :: (boxN c.place).map tsI) ∨ x = lineOf ("speed" :: (boxN c.speed).map tsI) := by simpa [crLines] using hx
  have hn : ∀ b : Box, (boxN b).length = 6 := fun b => rfl
  rcases hx with rfl | rfl | rfl
  · exact line_len (crL1 h)
  · exact line_len (okWs_ts (by decide) (by rw [hn]; decide) (box_sm (gB_v h.p (by decide)).2))
  · exact line_len (okWs_ts (by decide) (by rw [hn]; decide) (box_sm (gB_v h.s (by decide)).2))
theorem headL_len {c : Ct} (h : hdPre c) : ∀ x ∈ headL c, x.length ≤ 41000 := fun x hx => by
  obtain ⟨p1, p2, p3⟩ := h
  have hst : sm62 c.stride := sm_of (n := 20) (by unfold bd; omega) (by decide)
  have hfi : sm62 c.fine := sm_of (n := 20) (by unfold bd; omega) (by decide)
  have hx : x = "orrery contents" ++ "\n" ∨ x = lineOf ("body" :: (bdN c.body).map tsI) ∨ x = lineOf ["stride", tsI c.stride] ∨ x = lineOf ["fineness", tsI c.fine] := by simpa [headL] using hx
  rcases hx with rfl | rfl | rfl | rfl
  · decide
  · exact line_len (okWs_ts (by decide) (Nat.le_of_ble_eq_true rfl) (bd_sm p1))
  · exact line_len (okWs2 (by decide) hst)
  · exact line_len (okWs2 (by decide) hfi)
theorem d_saved_text (T : Tx w K mg) : Df P w K mg base CX0 3 "saved_text" ["contents"] (sp_saved_text K) := by
  have G_write_line := d_write_line (P := P) (base := base) T
  have G_head_lines := d_head_lines (P := P) (base := base) T
  have G_craft_lines := d_craft_lines (P := P) (base := base) T
  refine df_F T.F_saved_text T.g_saved_text T.B_saved_text sc_saved_text (fun _ => rfl) (fun a => [some (PCt K a), none, none, none, none, none, none]) (fun _ => rfl) fun cdv A' outer s H E hr => ⟨_, (pss_cons (ps_set (i := 1) sc_saved_text.nd rfl (by first | exact Or.inl rfl | exact Or.inr rfl) (pe_d G_head_lines hr (pa_cons (pv 0) pa_nil)))
    (pss_cons (ps_for PassesOwn.never rfl (pi_tup (pe_fld (pv 0) rfl)) (pg_name (i := 2) sc_saved_text.nd rfl (by first | exact Or.inl rfl | exact Or.inr rfl)) (pss_one (ps_set (i := 1) sc_saved_text.nd rfl (by first | exact Or.inl rfl | exact Or.inr rfl) (pe_op op_cat (pv 1) (pe_d G_craft_lines hr (pa_cons (pv 2) pa_nil))))))
    (pss_cons (ps_for PassesOwn.never rfl (pi_tup (pe_fld (pv 0) rfl)) (pg_name (i := 3) sc_saved_text.nd rfl (by first | exact Or.inl rfl | exact Or.inr rfl)) (pss_cons (ps_asg (pe_fld (pv 3) rfl) (pg_tup rfl (pgs_cons (pg_name (i := 4) sc_saved_text.nd rfl (by first | exact Or.inl rfl | exact Or.inr rfl)) (pgs_cons (pg_name (i := 5) sc_saved_text.nd rfl (by first | exact Or.inl rfl | exact Or.inr rfl)) (pgs_cons (pg_name (i := 6) sc_saved_text.nd rfl (by first | exact Or.inl rfl | exact Or.inr rfl)) pgs_nil)))))
    (pss_one (ps_expr (pe_bm PySem.F.plainAttrs_list PySem.F.slot_list_append PySem.F.type_list_append mt_append (pv 1) (pa_cons (pe_d G_write_line hr (pa_cons (pe_lst (pa_cons pe_str (pa_cons (pe_fld (pv 3) rfl) (pa_cons (pe_callTy call_str_int rfl T.n_str (by decide +kernel) (pa_cons (pv 4) pa_nil)) (pa_cons (pe_callTy call_str_int rfl T.n_str (by decide +kernel) (pa_cons (pv 5) pa_nil)) (pa_cons (pe_callTy call_str_int rfl T.n_str (by decide +kernel) (pa_cons (pv 6) pa_nil)) pa_nil)))))) pa_nil)) pa_nil))))))
    (pss_one (ps_ret (pe_join pe_str (pv 1))))))), ?_⟩
  intro c pre B0 z D ok kr kn
  obtain ⟨p1, p2, p3, p4⟩ := pre
  refine sq_asg ok (g_head_lines (g_var rfl) p1) fun z1 H1 ok1 => ?_
  have fl : ∀ xs : List Cr, (xs.flatMap crLines).length = 3 * xs.length := fun xs => by
    induction xs with
    | nil => rfl
    | cons x r ih =>
      rw [List.flatMap_cons, List.length_append, ih, List.length_cons]
      show 3 + _ = _
      omega
  have hh : (headL c).length = 4 := rfl
  have ok1 : OkS B0 H [some (PCt K c), some (PWs (headL c ++ (c.crafts.take 0).flatMap crLines)), none, none, none, none, none] none z1 H1 := ok1
  refine sq (st_forTm c.crafts (PCr K) (fun _ (_ : Unit) => True) (fun i _ => [some (PCt K c), some (PWs (headL c ++ (c.crafts.take i).flatMap crLines)), none, none, none, none, none]) (fun y i _ => [some (PCt K c), some (PWs (headL c ++ (c.crafts.take i).flatMap crLines)), some (PCr K y), none, none, none, none]) (fun _ _ => none) () trivial ok1 (g_fld (g_var rfl) T.cl_Contents T.na_Contents_crafts rfl) (fun y i x => tg_name) (fun C0 C up i y x hy r s' H' ok2 N hN => ?_) (fun x s' H' r ok2 => ?_))
  · have hm := p2 y (List.mem_of_getElem? hy)
    have hlt := at_lt hy
    refine st_asg ok2 (g_op (g_var rfl) (g_craft_lines (g_var rfl) hm) (r_cat ?_)) fun z3 H3 ok3 => hN _ _ () trivial ?_
    · rw [List.length_map, List.length_map, List.length_append, fl, hh, List.length_take]
      show _ + 3 ≤ 100000
      omega
    · have e : (c.crafts.take (i + 1)).flatMap crLines = (c.crafts.take i).flatMap crLines ++ crLines y := by
        rw [take_at hy, List.flatMap_append]
        show _ ++ [y].flatMap crLines = _
        rw [List.flatMap_cons, List.flatMap_nil, List.append_nil]
      rw [e, ← List.append_assoc, show PWs (headL c ++ (c.crafts.take i).flatMap crLines ++ crLines y) = PL ((headL c ++ (c.crafts.take i).flatMap crLines).map (fun x => PS x) ++ (crLines y).map fun x => PS x) from congrArg PL List.map_append]
      exact ok3.forget [2]
  rw [List.take_length] at ok2
  have e2 : PT K (c.sites.map (PSi K)) = PT K [] := by rw [p3]; rfl
  refine sq (st_forT ok2 (ds := []) ((g_fld (g_var rfl) T.cl_Contents T.na_Contents_sites rfl).is e2) (fun _ => [some (PCt K c), some (PWs (headL c ++ c.crafts.flatMap crLines)), none, none, none, none, none]) (fun _ => []) (fun _ => none) rfl rfl (fun i d hd => by simp at hd) (fun C0 C up i d hd => by simp at hd) (fun s' H' ok5 => ?_))
  refine st_ret ok5 (g_join (g_var rfl) ?_) kr
  have hs : ∀ x ∈ headL c ++ c.crafts.flatMap crLines, x.length ≤ 41000 := fun x hx => by
    rcases List.mem_append.mp hx with hx | hx
    · exact headL_len p1 x hx
    · obtain ⟨y, hy, hx⟩ := List.mem_flatMap.mp hx
      exact crLines_len (p2 y hy).1 x hx
  have h1 := sum_le hs
  have h2 : (headL c ++ c.crafts.flatMap crLines).length ≤ 304 := by
    rw [List.length_append, fl, hh]
    omega
  have h3 := Nat.mul_le_mul_right 41000 h2
  have h4 : ("" : Str).length = 0 := by decide
  rw [h4, Nat.mul_zero, Nat.add_zero]
  omega
end
end K9
set_option Elab.async false
set_option linter.all false
set_option maxRecDepth 100000
set_option maxHeartbeats 4000000
/-! K9Dc: the law's helpers. -/
namespace K9
open PySem PySem.Spec PyProof.Rows L2
/-- some datum of a kind -/
def PEx {A : Type} (p : A → Prop) (f : A → Dn) : Dn := ⟨fun H v => ∃ x, p x ∧ (f x).holds H v, fun e ⟨x, h1, h2⟩ => ⟨x, h1, (f x).mono e h2⟩⟩
section
variable {K : PySem.W.Frag} {G : Cn} {W : Option Ow} {ta tb tc td te : TE} {B0 B : Hp} {s : L2.St} {H : Hp} {D : Ends} {rest : TS}
theorem ex_i {A : Type} {p : A → Prop} {f : A → Dn} (x : A) (h : p x) {H : Hp} {v : V} (k : (f x).holds H v) : (PEx p f).holds H v := ⟨x, h, k⟩
theorem OkS.ex_ {A : Type} {p : A → Prop} {f : A → Dn} (i : Nat) (h : OkS B0 B G W s H) (hi : G[i]? = some (some (PEx p f))) : ∃ x, p x ∧ OkS B0 B (G.set i (some (f x))) W s H := by
  obtain ⟨H0, g, sl, ow⟩ := h.ex
  obtain ⟨v, h1, x, h2, h3⟩ := sl.at_ i _ hi
  have es : s.set i (some v) = s := by
    have hlt : i < s.length := (List.getElem?_eq_some_iff.mp h1).1
    have e2 := (List.getElem?_eq_some_iff.mp h1).2
    rw [← e2]
    exact List.set_getElem_self hlt
  have q := sl.set (i := i) h3
  rw [es] at q
  exact ⟨x, h2, H0, g, q, ow⟩
/-- y = .., of a kind -/
theorem sq_asgE {A : Type} {p : A → Prop} {f : A → Dn} {i : Nat} (h : OkS B0 B G W s H) (hi : i < G.length) (ev : EvG te G (PEx p f)) (k : ∀ x, p x → ∀ s' H', OkS B0 B (G.set i (some (f x))) W s' H' → rest D s' H') : tSeq (tAsg te (gName i)) rest D s H :=
  sq_asg h ev fun s' H' ok => by
    obtain ⟨x, hx, ok2⟩ := ok.ex_ i (by rw [List.getElem?_set_self hi])
    rw [List.set_set] at ok2
    exact k x hx s' H' ok2
/-- xs[j], any of them -/
theorem g_ixAny {A : Type} (xs : List A) (f : A → Dn) {j : Int} (ha : EvG ta G (PL (xs.map f))) (hb : EvG tb G (PI j)) (h0 : 0 ≤ j) (h1 : j < xs.length) : EvG (tOp (rIxL K) ta tb) G (PEx (fun x => x ∈ xs) f) := by
  have hj : j.toNat < xs.length := by omega
  exact EvG.imp (g_ixL j.toNat ha hb (by omega) (d := f (xs[j.toNat]'hj)) (by rw [List.getElem?_map, List.getElem?_eq_getElem hj]; rfl)) fun H v k => ⟨_, List.getElem_mem hj, k⟩
theorem g_exI {A : Type} {p q : A → Prop} {f : A → Dn} (h : EvG te G (PEx p f)) (e : ∀ x, p x → q x) : EvG te G (PEx q f) := h.imp fun H v ⟨x, h1, h2⟩ => ⟨x, e x h1, h2⟩
/-- a binary rule over any of a kind -/
theorem cdivW {j : Int} (h : 0 < j) (k : bd 8000 j) (i : Int) : CDivW i j := divW_of h k (by decide)
theorem cdivN (n : Nat) (h : 0 < n) (k : n < 2 ^ 62) (i : Int) : CDivW i (n : Int) := divW_of (n := 62) (by omega) (by unfold bd; omega) (by decide)
end
/-- bounds of x // a % b -/
theorem md {i j : Int} (h : 0 < j) : 0 ≤ i % j ∧ i % j < j := ⟨Int.emod_nonneg _ (by omega), Int.emod_lt_of_pos _ h⟩
theorem cm1 {i j : Int} (h : -(2 ^ 64) < i ∧ i < 2 ^ 64) : CMul i j := .inl h
theorem cm2 {i j : Int} (h : -(2 ^ 64) < j ∧ j < 2 ^ 64) : CMul i j := .inr h
abbrev nn (n : Int) : Prop := 0 ≤ n
abbrev PNn : Dn := PEx nn fun n => PI n
/-- the script -/
def PSc (K : PySem.W.Frag) (ns : List Int) : Dn := ⟨fun H v => ∃ a, v = .ref a ∧ SqL K H a (ns.map V.int), fun e ⟨a, h1, h2⟩ => ⟨a, h1, e.seq h2⟩⟩
section
variable {K : PySem.W.Frag} {G : Cn} {ta tb : TE}
theorem r_lenSc {ns : List Int} : RAG (fun xs H Q => ∃ p ys, xs = [V.ref p] ∧ (SqL K H p ys ∨ SqT K H p ys) ∧ Q (.int ys.length) H) [PSc K ns] (PI ns.length) := fun xs H0 H sm h Q k => by
  obtain ⟨v, rfl, a, rfl, hl⟩ := all1 h
  exact ⟨a, ns.map V.int, rfl, .inl (sm.seq hl), by rw [List.length_map]; exact k _ H0 H (.refl sm) rfl⟩
theorem g_ixSc {ns : List Int} {k : Nat} {i : Int} (ha : EvG ta G (PSc K ns)) (hb : EvG tb G (PI (k : Int))) (h : ns[k]? = some i) : EvG (tOp (rIxL K) ta tb) G (PI i) :=
  g_op ha hb fun x y H0 H sm ⟨p, ex, hs⟩ hy Q q => ⟨p, ns.map V.int, (k : Int), .int i, ex, hy, sm.seq hs, atI_nat (by rw [List.getElem?_map, h]; rfl), q _ H0 H (.refl sm) rfl⟩
end
section
variable {P : Program} {w : World} {K : PySem.W.Frag} {mg : Str → Option Value} {base : Heap} {G : Cn} {ta tb tc td te tf tg : TE} {E : XK}
/-! #### _law_row -/
abbrev rowArgs (K : PySem.W.Frag) (a : List Int × Nat) : List Dn := [PSc K a.1, PI (a.2 : Int)]
abbrev rowPre (a : List Int × Nat) : Prop := a.1.length ≤ 1000 ∧ a.2 ≤ 1000
abbrev sp_law_row (K : PySem.W.Frag) : Sp := spF (rowArgs K) rowPre fun _ => PNn
theorem g_law_row {ns : List Int} {i : Int} (k : Nat) (ha : EvG ta G (PSc K ns)) (hb : EvG tb G (PI i)) (e : i = (k : Int)) (h : rowPre (ns, k)) : EvG (tCall (sp_law_row K) [] E (tCons ta (tCons tb tNil))) G PNn := by
  subst e
  exact g_callF (args := rowArgs K) (ns, k) h (a_cons ha (a_cons hb a_nil))
theorem d_law_row (T : Tx w K mg) : Df P w K mg base CX0 1 "_law_row" ["_law_script", "_law_k"] (sp_law_row K) := by
  refine df_F T.F_law_row T.g_law_row T.B_law_row sc_law_row (fun _ => rfl) (fun a => [some (PSc K a.1), some (PI (a.2 : Int)), none]) (fun _ => rfl) fun cdv A' outer s H E hr => ⟨_, (pss_cons (ps_set (i := 2) sc_law_row.nd rfl (by first | exact Or.inl rfl | exact Or.inr rfl) pe_int)
    (pss_cons (ps_if (pt_cmpR op_lt (pv 1) (pe_callB call_len_seq rfl T.n_len PySem.boot_len (pa_cons (pv 0) pa_nil)) (nomark _)) (pss_one (ps_set (i := 2) sc_law_row.nd rfl (by first | exact Or.inl rfl | exact Or.inr rfl) (pe_callTy call_int1 rfl T.n_int (by decide +kernel) (pa_cons (pe_ix ix_list (pv 0) (pv 1) (fun _ _ => rfl)) pa_nil)))) pss_nil)
    (pss_cons (ps_if (pt_cmpR op_lt (pv 2) pe_int (nomark _)) (pss_one (ps_set (i := 2) sc_law_row.nd rfl (by first | exact Or.inl rfl | exact Or.inr rfl) (pe_op op_sub pe_int (pe_op op_mul pe_int (pv 2))))) pss_nil)
    (pss_cons (ps_if (pt_cmpR op_lt (pv 2) (pe_op op_pow pe_int pe_int) (nomark _)) (pss_cons (ps_set (i := 2) sc_law_row.nd rfl (by first | exact Or.inl rfl | exact Or.inr rfl) (pe_op op_mod (pe_callTy call_int1 rfl T.n_int (by decide +kernel) (pa_cons (pe_op op_add (pe_op op_mul (pe_op op_add (pv 2) pe_int) pe_int) (pe_op op_mul (pe_op op_add (pv 1) pe_int) pe_int)) pa_nil)) pe_int))
    (pss_one (ps_set (i := 2) sc_law_row.nd rfl (by first | exact Or.inl rfl | exact Or.inr rfl) (pe_op op_add (pe_op op_mul (pe_op op_mod (pe_callTy call_int1 rfl T.n_int (by decide +kernel) (pa_cons (pe_op op_add (pe_op op_add (pe_op op_mul (pv 2) pe_int) (pe_op op_mul (pv 1) pe_int)) pe_int) pa_nil)) pe_int) pe_int) (pe_op op_mod (pe_callTy call_int1 rfl T.n_int (by decide +kernel) (pa_cons (pe_op op_mul (pv 2) (pv 2)) pa_nil)) pe_int))))) pss_nil)
    (pss_one (ps_ret (pv 2))))))), ?_⟩
  intro a pre B0 z D ok kr kn
  obtain ⟨ns, k⟩ := a
  obtain ⟨p1, p2⟩ := pre
  have p1 : ns.length ≤ 1000 := p1
  have p2 : k ≤ 1000 := p2
  refine sq_asg ok g_c fun z1 H1 ok1 => ?_
  refine sq_ifM [some (PSc K ns), some (PI (k : Int)), some (PI (ns.getD k 0))] none ok1 (t_test (g_I0 (g_var rfl) (g_cb (a_cons (g_var rfl) a_nil) r_lenSc))) (fun hb H2 ok2 N hN => ?_) (fun hb H2 ok2 N hN => ?_) fun z2 H2 ok2 => ?_
  · have hb : (k : Int) < (ns.length : Int) := of_decide_eq_true hb
    have hk : k < ns.length := by omega
    have e : ns.getD k 0 = ns[k] := by rw [List.getD_eq_getElem?_getD, List.getElem?_eq_getElem hk]; rfl
    refine st_asg ok2 (g_cb (a_cons (g_ixSc (g_var rfl) (g_var rfl) (i := ns.getD k 0) (by rw [e]; exact List.getElem?_eq_getElem hk)) a_nil) r_int) fun z3 H3 ok3 => hN _ _ ok3
  · have hb : ¬ (k : Int) < (ns.length : Int) := of_decide_eq_false hb
    have e : ns.getD k 0 = 0 := by rw [List.getD_eq_getElem?_getD, List.getElem?_eq_none (by omega)]; rfl
    rw [e] at hN
    exact hN _ _ ok2
  generalize ns.getD k 0 = r0 at ok2
  refine sq_ifM [some (PSc K ns), some (PI (k : Int)), some PNn] none ok2 (t_test (g_I0 (g_var rfl) g_c)) (fun hb H3 ok3 N hN => ?_) (fun hb H3 ok3 N hN => ?_) fun z3 H3 ok3 => ?_
  · have hb : r0 < 0 := of_decide_eq_true hb
    exact st_asg ok3 (EvG.imp (g_I0 g_c (g_I g_c (g_var rfl) (cm1 (by decide)))) fun H v h => ex_i (p := nn) (f := fun n => PI n) (1 - 2 * r0) (by show 0 ≤ 1 - 2 * r0; omega) h) fun z4 H4 ok4 => hN _ _ ok4
  · have hb : ¬ r0 < 0 := of_decide_eq_false hb
    exact hN _ _ (ok3.imp (i := 2) rfl fun H v h => ex_i (p := nn) (f := fun n => PI n) r0 (by show 0 ≤ r0; omega) h)
  obtain ⟨r1, h1, ok3⟩ := ok3.ex_ 2 rfl
  have h1 : 0 ≤ r1 := h1
  refine sq_ifM [some (PSc K ns), some (PI (k : Int)), some PNn] none ok3 (t_test (g_I0 (g_var rfl) (g_I g_c g_c (cpow_of ⟨by decide, by decide, by decide⟩)))) (fun hb H4 ok4 N hN => ?_) (fun hb H4 ok4 N hN => ?_) fun z4 H4 ok4 => ?_
  · refine sq_asg ok4 (g_I (g_cb (a_cons (g_I0 (g_I (g_I0 (g_var rfl) g_c) g_c (cm2 (by decide))) (g_I (g_I0 (g_var rfl) g_c) g_c (cm2 (by decide)))) a_nil) r_int) g_c (by decide)) fun z5 H5 ok5 => ?_
    have hm := md (i := (r1 + 1) * 48271 + ((k : Int) + 1) * 69621) (j := 2147483647) (by decide)
    have ok5 : OkS B0 H [some (PSc K ns), some (PI (k : Int)), some (PI (((r1 + 1) * 48271 + ((k : Int) + 1) * 69621) % 2147483647))] none z5 H5 := ok5
    generalize ((r1 + 1) * 48271 + ((k : Int) + 1) * 69621) % 2147483647 = r2 at ok5 hm
    refine st_asg ok5 (EvG.imp (g_I0 (g_I (g_I (g_cb (a_cons (g_I0 (g_I0 (g_I (g_var rfl) g_c (cm2 (by decide))) (g_I (g_var rfl) g_c (cm2 (by decide)))) g_c) a_nil) r_int) g_c (by decide)) g_c (cm2 (by decide))) (g_I (g_cb (a_cons (g_I (g_var rfl) (g_var rfl) (cm1 (by omega))) a_nil) r_int) g_c (by decide))) fun H v h => ex_i (p := nn) (f := fun n => PI n) _ ?_ h) fun z6 H6 ok6 => hN _ _ ok6
    have m1 := md (i := r2 * 16807 + (k : Int) * 40014 + 11) (j := 2147483399) (by decide)
    have m2 := md (i := r2 * r2) (j := 2147482951) (by decide)
    show 0 ≤ (r2 * 16807 + (k : Int) * 40014 + 11) % 2147483399 * 2147483029 + r2 * r2 % 2147482951
    omega
  · exact hN _ _ (ok4.imp (i := 2) rfl fun H v h => ex_i (p := nn) (f := fun n => PI n) r1 h1 h)
  exact st_ret ok4 (g_var rfl) kr
/-! #### _law_spread, _law_box -/
abbrev inS (sp n : Int) : Prop := -sp ≤ n ∧ n ≤ sp
abbrev PC3 (c : Int × Int × Int) : Dn := PNs [c.1, c.2.1, c.2.2]
abbrev inC (sp : Int) (c : Int × Int × Int) : Prop := inS sp c.1 ∧ inS sp c.2.1 ∧ inS sp c.2.2
abbrev sp_law_spread : Sp := spF (fun a : Int × Int => [PI a.1, PI 3, PI a.2]) (fun a => 1 ≤ a.2 ∧ a.2 ≤ 5000) fun a => PEx (inC a.2) PC3
theorem g_law_spread {r sp : Int} (ha : EvG ta G (PI r)) (hb : EvG tb G (PI 3)) (hc : EvG tc G (PI sp)) (h : 1 ≤ sp ∧ sp ≤ 5000) : EvG (tCall sp_law_spread [] E (tCons ta (tCons tb (tCons tc tNil)))) G (PEx (inC sp) PC3) := g_callF (args := fun a : Int × Int => [PI a.1, PI 3, PI a.2]) (res := fun a : Int × Int => PEx (inC a.2) PC3) (r, sp) h (a_cons ha (a_cons hb (a_cons hc a_nil)))
theorem d_law_spread (T : Tx w K mg) : Df P w K mg base CX0 1 "_law_spread" ["_law_row_here", "_law_places", "_law_span"] sp_law_spread := by
  refine df_F T.F_law_spread T.g_law_spread T.B_law_spread sc_law_spread (fun _ => rfl) (fun a => [some (PI a.1), some (PI 3), some (PI a.2), none, none]) (fun _ => rfl) fun cdv A' outer s H E hr => ⟨_, (pss_cons (ps_set (i := 3) sc_law_spread.nd rfl (by first | exact Or.inl rfl | exact Or.inr rfl) (pe_lst pa_nil))
    (pss_cons (ps_for PassesOwn.never rfl (pi_range1 rfl T.n_range (pa_cons (pv 1) pa_nil)) (pg_name (i := 4) sc_law_spread.nd rfl (by first | exact Or.inl rfl | exact Or.inr rfl)) (pss_cons (ps_expr (pe_bm PySem.F.plainAttrs_list PySem.F.slot_list_append PySem.F.type_list_append mt_append (pv 3) (pa_cons (pe_op op_sub (pe_op op_mod (pe_callTy call_int1 rfl T.n_int (by decide +kernel) (pa_cons (pv 0) pa_nil)) (pe_op op_add (pe_op op_mul pe_int (pv 2)) pe_int)) (pv 2)) pa_nil)))
    (pss_one (ps_set (i := 0) sc_law_spread.nd rfl (by first | exact Or.inl rfl | exact Or.inr rfl) (pe_op op_fdivW (pv 0) (pe_op op_add (pe_op op_mul pe_int (pv 2)) pe_int))))))
    (pss_one (ps_ret (pv 3))))), ?_⟩
  intro a pre B0 z D ok kr kn
  obtain ⟨r, sp⟩ := a
  obtain ⟨p1, p2⟩ := pre
  have p1 : 1 ≤ sp := p1
  have p2 : sp ≤ 5000 := p2
  refine sq_own ok a_nil fun l z1 H1 ok1 => ?_
  refine sq (st_forRx 3 (fun i (x : Int × List Int) => x.2.length = i ∧ ∀ n ∈ x.2, inS sp n) (fun _ x => [some (PI x.1), some (PI 3), some (PI sp), some (PV (.ref l)), none]) (fun i x => [some (PI x.1), some (PI 3), some (PI sp), some (PV (.ref l)), some (PI (0 + (i : Int)))]) (fun _ x => some (owL l (x.2.map fun n => PI n))) (r, []) ⟨rfl, fun _ h => by simp at h⟩ ok1 (a_cons (g_var rfl) a_nil) rfl ⟨by decide, by decide⟩ (fun i x hi hx => tg_name) (fun C0 C up i x hi hx s' H' ok2 N hN => ?_) (fun x s' H' hx ok2 => ?_))
  · obtain ⟨rr, xs⟩ := x
    obtain ⟨hx1, hx2⟩ := hx
    have hx1 : xs.length = i := hx1
    have hm := md (i := rr) (j := 2 * sp + 1) (by omega)
    refine sq_app ok2 (g_var rfl) (g_I0 (g_I (g_cb (a_cons (g_var rfl) a_nil) r_int) (g_I0 (g_I g_c (g_var rfl) (cm1 (by decide))) g_c) (by omega)) (g_var rfl)) (by rw [List.length_map]; omega) fun H3 ok3 => ?_
    refine st_asg ok3 (g_I (g_var rfl) (g_I0 (g_I g_c (g_var rfl) (cm1 (by decide))) g_c) (cdivW (by omega) (bd.mono (n := 20) (by unfold bd; omega) (by decide)) _)) fun z4 H4 ok4 => hN _ _ (rr / (2 * sp + 1), xs ++ [rr % (2 * sp + 1) - sp]) ⟨by rw [List.length_append, List.length_singleton]; omega, fun n hn => ?_⟩ ?_
    · rcases List.mem_append.mp hn with hn | hn
      · exact hx2 n hn
      · have e : n = rr % (2 * sp + 1) - sp := by simpa using hn
        subst e
        constructor <;> omega
    · rw [List.map_append]
      exact ok4.forget [4]
  · obtain ⟨rr, xs⟩ := x
    obtain ⟨hx1, hx2⟩ := hx
    match xs, hx1, hx2, ok2 with
    | [a, b, c], _, hx2, ok2 =>
      have ok3 := OkS.freezeL (i := 3) ok2 rfl
      exact st_ret ok3 (EvG.imp (d' := PEx (inC sp) PC3) (g_var rfl) fun H v h => ⟨(a, b, c), ⟨hx2 a (by simp), hx2 b (by simp), hx2 c (by simp)⟩, h⟩) kr
    | [], h, _, _ => cases h
    | [_], h, _, _ => cases h
    | [_, _], h, _, _ => cases h
    | _ :: _ :: _ :: _ :: _, h, _, _ => simp at h
abbrev sp_law_box (K : PySem.W.Frag) : Sp := spF (fun a : Int × Int × Int => [PI a.1, PI a.2.1, PI a.2.2]) (fun a => (1 ≤ a.2.1 ∧ a.2.1 ≤ 5000) ∧ 0 ≤ a.2.2 ∧ a.2.2 ≤ 40) fun a => PEx (gB 6000) (PBox K)
theorem g_law_box {r sp wd : Int} (ha : EvG ta G (PI r)) (hb : EvG tb G (PI sp)) (hc : EvG tc G (PI wd)) (h : (1 ≤ sp ∧ sp ≤ 5000) ∧ 0 ≤ wd ∧ wd ≤ 40) : EvG (tCall (sp_law_box K) [] E (tCons ta (tCons tb (tCons tc tNil)))) G (PEx (gB 6000) (PBox K)) := g_callF (args := fun a : Int × Int × Int => [PI a.1, PI a.2.1, PI a.2.2]) (r, sp, wd) h (a_cons ha (a_cons hb (a_cons hc a_nil)))
theorem d_law_box (T : Tx w K mg) : Df P w K mg base CX0 2 "_law_box" ["_law_row_here", "_law_span", "_law_wide_here"] (sp_law_box K) := by
  have G_law_spread := d_law_spread (P := P) (base := base) T
  refine df_F T.F_law_box T.g_law_box T.B_law_box sc_law_box (fun _ => rfl) (fun a => [some (PI a.1), some (PI a.2.1), some (PI a.2.2), none, none, none, none]) (fun _ => rfl) fun cdv A' outer s H E hr => ⟨_, (pss_cons (ps_set (i := 3) sc_law_box.nd rfl (by first | exact Or.inl rfl | exact Or.inr rfl) (pe_d G_law_spread hr (pa_cons (pv 0) (pa_cons pe_int (pa_cons (pv 1) pa_nil)))))
    (pss_cons (ps_set (i := 0) sc_law_box.nd rfl (by first | exact Or.inl rfl | exact Or.inr rfl) (pe_op op_fdivW (pv 0) (pe_op op_pow (pe_op op_add (pe_op op_mul pe_int (pv 1)) pe_int) pe_int)))
    (pss_cons (ps_set (i := 4) sc_law_box.nd rfl (by first | exact Or.inl rfl | exact Or.inr rfl) (pe_lst pa_nil))
    (pss_cons (ps_for PassesOwn.never rfl (pi_range1 rfl T.n_range (pa_cons pe_int pa_nil)) (pg_name (i := 5) sc_law_box.nd rfl (by first | exact Or.inl rfl | exact Or.inr rfl)) (pss_cons (ps_set (i := 6) sc_law_box.nd rfl (by first | exact Or.inl rfl | exact Or.inr rfl) (pe_op op_mod (pe_callTy call_int1 rfl T.n_int (by decide +kernel) (pa_cons (pv 0) pa_nil)) (pe_op op_add (pv 2) pe_int)))
    (pss_cons (ps_set (i := 0) sc_law_box.nd rfl (by first | exact Or.inl rfl | exact Or.inr rfl) (pe_op op_fdivW (pv 0) (pe_op op_add (pv 2) pe_int)))
    (pss_one (ps_expr (pe_bm PySem.F.plainAttrs_list PySem.F.slot_list_append PySem.F.type_list_append mt_append (pv 4) (pa_cons (pe_tup (pa_cons (pe_op op_sub (pe_ix ix_list (pv 3) (pv 5) (fun _ _ => rfl)) (pv 6)) (pa_cons (pe_op op_add (pe_ix ix_list (pv 3) (pv 5) (fun _ _ => rfl)) (pv 6)) pa_nil))) pa_nil)))))))
    (pss_one (ps_ret (pe_tup (pa_cons (pe_ix ix_list (pv 4) pe_int (fun _ _ => rfl)) (pa_cons (pe_ix ix_list (pv 4) pe_int (fun _ _ => rfl)) (pa_cons (pe_ix ix_list (pv 4) pe_int (fun _ _ => rfl)) pa_nil)))))))))), ?_⟩
  intro a pre B0 z D ok kr kn
  obtain ⟨r, sp, wd⟩ := a
  obtain ⟨⟨p1, p2⟩, p3, p4⟩ := pre
  have p1 : 1 ≤ sp := p1
  have p2 : sp ≤ 5000 := p2
  have p3 : 0 ≤ wd := p3
  have p4 : wd ≤ 40 := p4
  refine sq_asgE ok (by show 3 < 7; decide) (g_law_spread (g_var rfl) g_c (g_var rfl) ⟨p1, p2⟩) fun c hc z1 H1 ok1 => ?_
  obtain ⟨hc1, hc2, hc3⟩ := hc
  have hb : bd 20 (2 * sp + 1) := by unfold bd; omega
  have hpos : 0 < (2 * sp + 1) ^ (3 : Int).toNat := Int.pow_pos (by omega)
  have hpb : bd 8000 ((2 * sp + 1) ^ (3 : Int).toNat) := by
    have e : (2 * sp + 1) ^ (3 : Int).toNat = (2 * sp + 1) * (2 * sp + 1) * (2 * sp + 1) := by
      show (2 * sp + 1) ^ 3 = _
      rw [Int.pow_succ, Int.pow_succ, Int.pow_succ, Int.pow_zero, Int.one_mul]
    rw [e]
    exact ((hb.mul hb).mul hb).mono (by decide)
  refine sq_asg ok1 (g_I (g_var rfl) (g_I (g_I0 (g_I g_c (g_var rfl) (cm1 (by decide))) g_c) g_c (cpow_of ⟨by decide, by decide, by omega⟩)) (cdivW hpos hpb _)) fun z2 H2 ok2 => ?_
  have ok2 : OkS B0 H [some (PI (r / (2 * sp + 1) ^ (3 : Int).toNat)), some (PI sp), some (PI wd), some (PC3 c), none, none, none] none z2 H2 := ok2
  generalize r / (2 * sp + 1) ^ (3 : Int).toNat = r1 at ok2
  refine sq_own ok2 a_nil fun l z3 H3 ok3 => ?_
  refine sq (st_forRx 3 (fun i (x : Int × List Iv) => x.2.length = i ∧ ∀ n ∈ x.2, gI 6000 n) (fun _ x => [some (PI x.1), some (PI sp), some (PI wd), some (PC3 c), some (PV (.ref l)), none, none]) (fun i x => [some (PI x.1), some (PI sp), some (PI wd), some (PC3 c), some (PV (.ref l)), some (PI (0 + (i : Int))), none]) (fun _ x => some (owL l (x.2.map (PIv K)))) (r1, []) ⟨rfl, fun _ h => by simp at h⟩ ok3 (a_cons g_c a_nil) rfl ⟨by decide, by decide⟩ (fun i x hi hx => tg_name) (fun C0 C up i x hi hx s' H' ok4 N hN => ?_) (fun x s' H' hx ok4 => ?_))
  · obtain ⟨rr, xs⟩ := x
    obtain ⟨hx1, hx2⟩ := hx
    have hx1 : xs.length = i := hx1
    have hm := md (i := rr) (j := wd + 1) (by omega)
    obtain ⟨ci, hci, hcb⟩ : ∃ ci, ([c.1, c.2.1, c.2.2].map fun x => PI x)[i]? = some (PI ci) ∧ inS sp ci := by
      match i, hi with
      | 0, _ => exact ⟨_, rfl, hc1⟩
      | 1, _ => exact ⟨_, rfl, hc2⟩
      | 2, _ => exact ⟨_, rfl, hc3⟩
    refine sq_asg ok4 (g_I (g_cb (a_cons (g_var rfl) a_nil) r_int) (g_I0 (g_var rfl) g_c) (by omega)) fun z5 H5 ok5 => ?_
    refine sq_asg ok5 (g_I (g_var rfl) (g_I0 (g_var rfl) g_c) (cdivW (by omega) (bd.mono (n := 20) (by unfold bd; omega) (by decide)) _)) fun z6 H6 ok6 => ?_
    refine st_app ok6 (g_var rfl) (d := PIv K (ci - rr % (wd + 1), ci + rr % (wd + 1))) (g_tup (a_cons (g_I0 (g_ixL i (g_var rfl) (g_var rfl) (by omega) hci) (g_var rfl)) (a_cons (g_I0 (g_ixL i (g_var rfl) (g_var rfl) (by omega) hci) (g_var rfl)) a_nil)) (Nat.le_of_ble_eq_true rfl)) (by rw [List.length_map]; omega) fun H7 ok7 => hN _ _ (rr / (wd + 1), xs ++ [(ci - rr % (wd + 1), ci + rr % (wd + 1))]) ⟨by rw [List.length_append, List.length_singleton]; omega, fun n hn => ?_⟩ ?_
    · rcases List.mem_append.mp hn with hn | hn
      · exact hx2 n hn
      · have e : n = (ci - rr % (wd + 1), ci + rr % (wd + 1)) := by simpa using hn
        subst e
        refine ⟨?_, ?_, ?_⟩
        · show -6000 ≤ ci - rr % (wd + 1)
          have := hcb.1
          omega
        · show ci - rr % (wd + 1) ≤ ci + rr % (wd + 1)
          omega
        · show ci + rr % (wd + 1) ≤ 6000
          have := hcb.2
          omega
    · rw [List.map_append]
      exact ok7.forget [5, 6]
  · obtain ⟨rr, xs⟩ := x
    obtain ⟨hx1, hx2⟩ := hx
    match xs, hx1, hx2, ok4 with
    | [a, b, c], _, hx2, ok4 =>
      have ok5 := OkS.freezeL (i := 4) ok4 rfl
      exact st_ret ok5 (EvG.imp (d' := PEx (gB 6000) (PBox K)) (g_tup (ds := [PIv K a, PIv K b, PIv K c]) (a_cons (g_ixL0 (g_var rfl)) (a_cons (g_ixL1 (g_var rfl)) (a_cons (g_ixL2 (g_var rfl)) a_nil))) (Nat.le_of_ble_eq_true rfl)) fun H v h => ⟨(a, b, c), ⟨hx2 a (by simp), hx2 b (by simp), hx2 c (by simp)⟩, h⟩) kr
    | [], h, _, _ => cases h
    | [_], h, _, _ => cases h
    | [_, _], h, _, _ => cases h
    | _ :: _ :: _ :: _ :: _, h, _, _ => simp at h
/-! #### _law_craft, _law_made -/
abbrev lcArgs (K : PySem.W.Frag) (c : Cr) : List Dn := [PS c.name, PI c.start, PBox K c.place, PBox K c.speed, PI c.drift, PL (c.burns.map (PBuT K)), PL []]
abbrev lcPre (c : Cr) : Prop := okCr c ∧ (∀ b ∈ c.burns, okBu b) ∧ c.burns.length ≤ 1000 ∧ c.sights = []
abbrev sp_law_craft (K : PySem.W.Frag) : Sp := spF (lcArgs K) lcPre (PCr K)
theorem d_law_craft (T : Tx w K mg) : Df P w K mg base CX0 4 "_law_craft" ["_law_name", "_law_start", "_law_place", "_law_speed", "_law_drift", "_law_burns", "_law_seen"] (sp_law_craft K) := by
  have G_Burn := d_Burn (P := P) (base := base) T
  have G_Sighting := d_Sighting (P := P) (base := base) T
  have G_Craft7 := d_Craft7 (P := P) (base := base) T
  refine df_F T.F_law_craft T.g_law_craft T.B_law_craft sc_law_craft (fun _ => rfl) (fun c => [some (PS c.name), some (PI c.start), some (PBox K c.place), some (PBox K c.speed), some (PI c.drift), some (PL (c.burns.map (PBuT K))), some (PL []), none, none, none, none, none, none]) (fun _ => rfl) fun cdv A' outer s H E hr => ⟨_, (pss_cons (ps_setLc (i := 10) (own := [("_law_begin", 7), ("_law_end", 8), ("_law_box_here", 9)]) (g := (gTup K 3 (gCons (gName 7) (gCons (gName 8) (gCons (gName 9) gNil))))) rfl sc_law_craft.nd rfl rfl (sw_true rfl rfl rfl (by decide +kernel)) (pi_list (pv 5)) (blkOk_by (N := N_law_craft) (sc := defScope S_law_craft) (by decide +kernel)) (fun _ _ _ _ _ => (pg_tup rfl (pgs_cons (pg_name (i := 7) sc_law_craft.nd rfl (Or.inl rfl)) (pgs_cons (pg_name (i := 8) sc_law_craft.nd rfl (Or.inl rfl)) (pgs_cons (pg_name (i := 9) sc_law_craft.nd rfl (Or.inl rfl)) pgs_nil))))) (fun _ _ _ _ _ => pts_nil) (fun _ _ _ _ _ => (pe_k G_Burn hr (pa_cons (pv 7) (pa_cons (pv 8) (pa_cons (pv 9) pa_nil))))))
    (pss_cons (ps_setLc (i := 12) (own := [("_law_at", 11), ("_law_box_here", 9)]) (g := (gTup K 2 (gCons (gName 11) (gCons (gName 9) gNil)))) rfl sc_law_craft.nd rfl rfl (sw_true rfl rfl rfl (by decide +kernel)) (pi_list (pv 6)) (blkOk_by (N := N_law_craft) (sc := defScope S_law_craft) (by decide +kernel)) (fun _ _ _ _ _ => (pg_tup rfl (pgs_cons (pg_name (i := 11) sc_law_craft.nd rfl (Or.inl rfl)) (pgs_cons (pg_name (i := 9) sc_law_craft.nd rfl (Or.inl rfl)) pgs_nil)))) (fun _ _ _ _ _ => pts_nil) (fun _ _ _ _ _ => (pe_k G_Sighting hr (pa_cons (pv 11) (pa_cons (pv 9) pa_nil)))))
    (pss_one (ps_ret (pe_k G_Craft7 hr (pa_cons (pv 0) (pa_cons (pv 1) (pa_cons (pv 2) (pa_cons (pv 3) (pa_cons (pv 4) (pa_cons (pv 10) (pa_cons (pv 12) pa_nil)))))))))))), ?_⟩
  intro c pre B0 z D ok kr kn
  obtain ⟨p1, p2, p3, p4⟩ := pre
  refine sq_asg ok (g_lcL0 (vs := [7, 8, 9]) c.burns (PBuT K) (PBu K) (fun b => [some (PS c.name), some (PI c.start), some (PBox K c.place), some (PBox K c.speed), some (PI c.drift), some (PL (c.burns.map (PBuT K))), some (PL []), some (PI b.b), some (PI b.e), some (PBox K b.push), none, none, none]) (g_var rfl) (by omega) (fun b _ => tc_tup (tcs_cons tc_name (tcs_cons tc_name (tcs_cons tc_name tcs_nil)))) (fun b hb => g_Burn (g_var rfl) (g_var rfl) (g_var rfl) (p2 b hb))) fun z1 H1 ok1 => ?_
  refine sq_asg ok1 (EvG.is (d' := PL (([] : List Sg).map (PSg K))) (g_lcL0 (vs := [11, 9]) ([] : List Sg) (PSgT K) (PSg K) (fun _ => []) (g_var rfl) (by decide) (fun _ h => by simp at h) (fun _ h => by simp at h)) rfl) fun z2 H2 ok2 => ?_
  exact st_ret ok2 (g_Craft7 (c := c) (g_var rfl) (g_var rfl) (g_var rfl) (g_var rfl) (g_var rfl) (EvG.imp (g_var rfl) fun _ _ => pq_l) (EvG.is (EvG.imp (g_var rfl) fun _ _ => pq_l) (by rw [p4])) p1) kr
abbrev PDat (K : PySem.W.Frag) (d : Cr × Int) : Dn := PT K [PS d.1.name, PI d.1.start, PBox K d.1.place, PBox K d.1.speed, PI d.1.drift, PL (d.1.burns.map (PBuT K)), PI d.2]
abbrev sp_law_made (K : PySem.W.Frag) : Sp := spF (fun d : Cr × Int => [PDat K d, PL []]) (fun d => lcPre d.1) fun d => PCr K d.1
theorem g_law_made {d : Cr × Int} (ha : EvG ta G (PDat K d)) (hb : EvG tb G (PL [])) (h : lcPre d.1) : EvG (tCall (sp_law_made K) [] E (tCons ta (tCons tb tNil))) G (PCr K d.1) := g_callF (args := fun d : Cr × Int => [PDat K d, PL []]) (res := fun d : Cr × Int => PCr K d.1) d h (a_cons ha (a_cons hb a_nil))
theorem d_law_made (T : Tx w K mg) : Df P w K mg base CX0 5 "_law_made" ["_law_data_here", "_law_seen"] (sp_law_made K) := by
  have G_law_craft := d_law_craft (P := P) (base := base) T
  refine df_F T.F_law_made T.g_law_made T.B_law_made sc_law_made (fun _ => rfl) (fun d => [some (PDat K d), some (PL []), none, none, none, none, none, none, none]) (fun _ => rfl) fun cdv A' outer s H E hr => ⟨_, (pss_cons (ps_asg (pv 0) (pg_tup rfl (pgs_cons (pg_name (i := 2) sc_law_made.nd rfl (by first | exact Or.inl rfl | exact Or.inr rfl)) (pgs_cons (pg_name (i := 3) sc_law_made.nd rfl (by first | exact Or.inl rfl | exact Or.inr rfl)) (pgs_cons (pg_name (i := 4) sc_law_made.nd rfl (by first | exact Or.inl rfl | exact Or.inr rfl)) (pgs_cons (pg_name (i := 5) sc_law_made.nd rfl (by first | exact Or.inl rfl | exact Or.inr rfl)) (pgs_cons (pg_name (i := 6) sc_law_made.nd rfl (by first | exact Or.inl rfl | exact Or.inr rfl)) (pgs_cons (pg_name (i := 7) sc_law_made.nd rfl (by first | exact Or.inl rfl | exact Or.inr rfl)) (pgs_cons (pg_name (i := 8) sc_law_made.nd rfl (by first | exact Or.inl rfl | exact Or.inr rfl)) pgs_nil)))))))))
    (pss_one (ps_ret (pe_d G_law_craft hr (pa_cons (pv 2) (pa_cons (pv 3) (pa_cons (pv 4) (pa_cons (pv 5) (pa_cons (pv 6) (pa_cons (pv 7) (pa_cons (pv 1) pa_nil))))))))))), ?_⟩
  intro d pre B0 z D ok kr kn
  refine sq_asgT ok (g_var rfl) (tg_tup (tgs_cons tg_name (tgs_cons tg_name (tgs_cons tg_name (tgs_cons tg_name (tgs_cons tg_name (tgs_cons tg_name (tgs_cons tg_name tgs_nil)))))))) fun z1 H1 ok1 => ?_
  exact st_ret ok1 (g_callF (args := lcArgs K) (res := PCr K) d.1 pre (a_cons (g_var rfl) (a_cons (g_var rfl) (a_cons (g_var rfl) (a_cons (g_var rfl) (a_cons (g_var rfl) (a_cons (g_var rfl) (a_cons (g_var rfl) a_nil)))))))) kr
/-! #### _law_turn, _law_world -/
structure okTu (t : Int × Int × Int) : Prop where
  n : 1 ≤ t.2.2 ∧ t.2.2 ≤ 1000000
  r : t.1 * t.1 + t.2.1 * t.2.1 = t.2.2 * t.2.2
  x : bd 64 t.1 ∧ bd 64 t.2.1
abbrev PTu (K : PySem.W.Frag) : Dn := PEx okTu (P3 K)
abbrev sp_law_turn (K : PySem.W.Frag) : Sp := spF (fun r : Int => [PI r]) (fun r => 0 ≤ r) fun _ => PTu K
theorem g_law_turn {r : Int} (ha : EvG ta G (PI r)) (h : 0 ≤ r) : EvG (tCall (sp_law_turn K) [] E (tCons ta tNil)) G (PTu K) := g_callF (args := fun r : Int => [PI r]) r h (a_cons ha a_nil)
def turnsL : List (Int × Int × Int) := [(1, 0, 1), (0, 1, 1), (3, 4, 5), (-4, 3, 5), (399, 40, 401), (9999, 200, 10001), (-1, 0, 1), (0, -1, 1)]
theorem turnsL_ok : ∀ t ∈ turnsL, okTu t := fun t ht => by
  have h : t = (1, 0, 1) ∨ t = (0, 1, 1) ∨ t = (3, 4, 5) ∨ t = (-4, 3, 5) ∨ t = (399, 40, 401) ∨ t = (9999, 200, 10001) ∨ t = (-1, 0, 1) ∨ t = (0, -1, 1) := by simpa [turnsL] using ht
  rcases h with rfl | rfl | rfl | rfl | rfl | rfl | rfl | rfl <;> exact ⟨by decide, by decide, by unfold bd; decide, by unfold bd; decide⟩
theorem tri (p q : Int) : (p * p - q * q) * (p * p - q * q) + (2 * p * q) * (2 * p * q) = (p * p + q * q) * (p * p + q * q) := by grind
theorem sq_le {p : Int} (h0 : 0 ≤ p) (h1 : p ≤ 700) : 0 ≤ p * p ∧ p * p ≤ 490000 := ⟨Int.mul_nonneg h0 h0, by
  have := Int.mul_le_mul h1 h1 h0 (by omega)
  omega⟩
theorem tri_ok {p q : Int} (hp : 1 ≤ p ∧ p ≤ 700) (hq : 0 ≤ q ∧ q ≤ 699) : okTu (p * p - q * q, 2 * p * q, p * p + q * q) := by
  have h1 := sq_le (p := p) (by omega) hp.2
  have h2 := sq_le hq.1 (by omega)
  have h3 : 1 ≤ p * p := pos_mul hp.1 hp.1
  have h4 : 0 ≤ p * q := Int.mul_nonneg (by omega) hq.1
  have h5 : p * q ≤ 700 * 700 := Int.mul_le_mul hp.2 (by omega) hq.1 (by omega)
  refine ⟨⟨by show 1 ≤ _ + _; omega, by show _ + _ ≤ _; omega⟩, tri p q, ?_, ?_⟩
  · show bd 64 (p * p - q * q)
    unfold bd
    omega
  · show bd 64 (2 * p * q)
    have e : 2 * p * q = 2 * (p * q) := by rw [Int.mul_assoc]
    rw [e]
    unfold bd
    omega
theorem d_law_turn (T : Tx w K mg) : Df P w K mg base CX0 1 "_law_turn" ["_law_row_here"] (sp_law_turn K) := by
  refine df_F T.F_law_turn T.g_law_turn T.B_law_turn sc_law_turn (fun _ => rfl) (fun r => [some (PI r), none, none, none]) (fun _ => rfl) fun cdv A' outer s H E hr => ⟨_, (pss_cons (ps_set (i := 1) sc_law_turn.nd rfl (by first | exact Or.inl rfl | exact Or.inr rfl) (pe_lst (pa_cons (pe_tup (pa_cons pe_int (pa_cons pe_int (pa_cons pe_int pa_nil)))) (pa_cons (pe_tup (pa_cons pe_int (pa_cons pe_int (pa_cons pe_int pa_nil)))) (pa_cons (pe_tup (pa_cons pe_int (pa_cons pe_int (pa_cons pe_int pa_nil)))) (pa_cons (pe_tup (pa_cons (pe_un un_neg pe_int) (pa_cons pe_int (pa_cons pe_int pa_nil)))) (pa_cons (pe_tup (pa_cons pe_int (pa_cons pe_int (pa_cons pe_int pa_nil)))) (pa_cons (pe_tup (pa_cons pe_int (pa_cons pe_int (pa_cons pe_int pa_nil)))) (pa_cons (pe_tup (pa_cons (pe_un un_neg pe_int) (pa_cons pe_int (pa_cons pe_int pa_nil)))) (pa_cons (pe_tup (pa_cons pe_int (pa_cons (pe_un un_neg pe_int) (pa_cons pe_int pa_nil)))) pa_nil))))))))))
    (pss_cons (ps_if (pt_cmpR op_eq (pe_op op_mod (pe_callTy call_int1 rfl T.n_int (by decide +kernel) (pa_cons (pv 0) pa_nil)) pe_int) pe_int (nomark _)) (pss_cons (ps_set (i := 2) sc_law_turn.nd rfl (by first | exact Or.inl rfl | exact Or.inr rfl) (pe_op op_add pe_int (pe_op op_mod (pe_op op_fdivW (pv 0) pe_int) pe_int)))
    (pss_cons (ps_set (i := 3) sc_law_turn.nd rfl (by first | exact Or.inl rfl | exact Or.inr rfl) (pe_op op_mod (pe_op op_fdivW (pv 0) pe_int) pe_int))
    (pss_one (ps_ret (pe_tup (pa_cons (pe_op op_sub (pe_op op_mul (pv 2) (pv 2)) (pe_op op_mul (pv 3) (pv 3))) (pa_cons (pe_op op_mul (pe_op op_mul pe_int (pv 2)) (pv 3)) (pa_cons (pe_op op_add (pe_op op_mul (pv 2) (pv 2)) (pe_op op_mul (pv 3) (pv 3))) pa_nil)))))))) pss_nil)
    (pss_one (ps_ret (pe_ix ix_list (pv 1) (pe_op op_mod (pe_op op_fdivW (pe_callTy call_int1 rfl T.n_int (by decide +kernel) (pa_cons (pv 0) pa_nil)) pe_int) pe_int) (fun _ _ => rfl)))))), ?_⟩
  intro r pre B0 z D ok kr kn
  refine sq_asg ok (EvG.is (d' := PL (turnsL.map (P3 K))) (g_lst (ds := turnsL.map (P3 K)) (a_cons (g_tup (a_cons g_c (a_cons g_c (a_cons g_c a_nil)))) (a_cons (g_tup (a_cons g_c (a_cons g_c (a_cons g_c a_nil)))) (a_cons (g_tup (a_cons g_c (a_cons g_c (a_cons g_c a_nil)))) (a_cons (g_tup (a_cons (g_U g_c) (a_cons g_c (a_cons g_c a_nil)))) (a_cons (g_tup (a_cons g_c (a_cons g_c (a_cons g_c a_nil)))) (a_cons (g_tup (a_cons g_c (a_cons g_c (a_cons g_c a_nil)))) (a_cons (g_tup (a_cons (g_U g_c) (a_cons g_c (a_cons g_c a_nil)))) (a_cons (g_tup (a_cons g_c (a_cons (g_U g_c) (a_cons g_c a_nil)))) a_nil)))))))) (Nat.le_of_ble_eq_true rfl)) rfl) fun z1 H1 ok1 => ?_
  refine sq_if0 ok1 (t_test (g_op (g_I (g_cb (a_cons (g_var rfl) a_nil) r_int) g_c (by decide)) g_c (r_eq rfl))) (fun hb H2 ok2 => ?_) fun hb H2 ok2 => ?_
  · have m1 := md (i := r / 3) (j := 700) (by decide)
    have m2 := md (i := r / 2100) (j := 700) (by decide)
    refine sq_asg ok2 (g_I0 g_c (g_I (g_I (g_var rfl) g_c (cdivN 3 (by decide) (by decide) _)) g_c (by decide))) fun z3 H3 ok3 => ?_
    refine sq_asg ok3 (g_I (g_I (g_var rfl) g_c (cdivN 2100 (by decide) (by decide) _)) g_c (by decide)) fun z4 H4 ok4 => ?_
    have ok4 : OkS B0 H [some (PI r), some (PL (turnsL.map (P3 K))), some (PI (1 + r / 3 % 700)), some (PI (r / 2100 % 700))] none z4 H4 := ok4
    obtain ⟨p, hp⟩ : ∃ p, 1 + r / 3 % 700 = p := ⟨_, rfl⟩
    obtain ⟨q, hq⟩ : ∃ q, r / 2100 % 700 = q := ⟨_, rfl⟩
    rw [hp, hq] at ok4
    have h1 : 1 ≤ p ∧ p ≤ 700 := by omega
    have h2 : 0 ≤ q ∧ q ≤ 699 := by omega
    have h4 : 0 ≤ p * q := Int.mul_nonneg (by omega) h2.1
    have cp : ∀ j, CMul p j := fun j => cm1 (by omega)
    have cq : ∀ i, CMul i q := fun i => cm2 (by omega)
    exact st_ret ok4 (EvG.imp (d := P3 K (p * p - q * q, 2 * p * q, p * p + q * q)) (d' := PTu K) (g_tup (a_cons (g_I0 (g_I (g_var rfl) (g_var rfl) (cp _)) (g_I (g_var rfl) (g_var rfl) (cq _))) (a_cons (g_I (g_I g_c (g_var rfl) (cm1 (by decide))) (g_var rfl) (cq _)) (a_cons (g_I0 (g_I (g_var rfl) (g_var rfl) (cp _)) (g_I (g_var rfl) (g_var rfl) (cq _))) a_nil))) (Nat.le_of_ble_eq_true rfl)) fun H v h => ⟨_, tri_ok h1 h2, h⟩) kr
  · have m1 := md (i := r / 3) (j := 8) (by decide)
    exact st_ret ok2 (g_exI (g_ixAny turnsL (P3 K) (g_var rfl) (g_I (g_I (g_cb (a_cons (g_var rfl) a_nil) r_int) g_c (cdivN 3 (by decide) (by decide) _)) g_c (by decide)) m1.1 m1.2) turnsL_ok) kr
structure WA where
  mu : Int
  obl : Int
  turn : Int × Int × Int
  st : Int
  fi : Int
structure okWA (a : WA) : Prop where
  m : 1 ≤ a.mu ∧ a.mu ≤ 1000000000
  o : 0 ≤ a.obl ∧ a.obl ≤ 1000000000000
  t : okTu a.turn
  s : 1 ≤ a.st ∧ a.st ≤ 4
  f : 0 ≤ a.fi ∧ a.fi ≤ 2
abbrev PWA (K : PySem.W.Frag) (a : WA) : Dn := PT K [PI a.mu, PI a.obl, P3 K a.turn, PI a.st, PI a.fi]
abbrev sp_law_world (K : PySem.W.Frag) : Sp := spF (fun ns : List Int => [PSc K ns]) (fun ns => ns.length ≤ 1000) fun _ => PEx okWA (PWA K)
theorem g_law_world {ns : List Int} (ha : EvG ta G (PSc K ns)) (h : ns.length ≤ 1000) : EvG (tCall (sp_law_world K) [] E (tCons ta tNil)) G (PEx okWA (PWA K)) := g_callF (args := fun ns : List Int => [PSc K ns]) ns h (a_cons ha a_nil)
theorem d_law_world (T : Tx w K mg) : Df P w K mg base CX0 2 "_law_world" ["_law_script"] (sp_law_world K) := by
  have G_law_row := d_law_row (P := P) (base := base) T
  have G_law_turn := d_law_turn (P := P) (base := base) T
  refine df_F T.F_law_world T.g_law_world T.B_law_world sc_law_world (fun _ => rfl) (fun a => [some (PSc K a), none, none, none, none, none]) (fun _ => rfl) fun cdv A' outer s H E hr => ⟨_, (pss_cons (ps_set (i := 1) sc_law_world.nd rfl (by first | exact Or.inl rfl | exact Or.inr rfl) (pe_d G_law_row hr (pa_cons (pv 0) (pa_cons pe_int pa_nil))))
    (pss_cons (ps_set (i := 2) sc_law_world.nd rfl (by first | exact Or.inl rfl | exact Or.inr rfl) (pe_ix ix_list (pe_lst (pa_cons (pe_op op_add pe_int (pe_op op_mod (pe_op op_fdivW (pv 1) pe_int) pe_int)) (pa_cons (pe_op op_add pe_int (pe_op op_mod (pe_op op_fdivW (pv 1) pe_int) (pe_op op_pow pe_int pe_int))) (pa_cons (pe_op op_add pe_int (pe_op op_mod (pe_op op_fdivW (pv 1) pe_int) (pe_op op_pow pe_int pe_int))) pa_nil)))) (pe_op op_mod (pv 1) pe_int) (fun _ _ => rfl)))
    (pss_cons (ps_set (i := 3) sc_law_world.nd rfl (by first | exact Or.inl rfl | exact Or.inr rfl) (pe_ix ix_list (pe_lst (pa_cons pe_int (pa_cons (pe_op op_mod (pe_op op_fdivW (pv 1) pe_int) (pe_op op_pow pe_int pe_int)) pa_nil))) (pe_op op_mod (pe_op op_fdivW (pv 1) pe_int) pe_int) (fun _ _ => rfl)))
    (pss_cons (ps_set (i := 4) sc_law_world.nd rfl (by first | exact Or.inl rfl | exact Or.inr rfl) (pe_d G_law_turn hr (pa_cons (pe_op op_fdivW (pv 1) pe_int) pa_nil)))
    (pss_cons (ps_set (i := 1) sc_law_world.nd rfl (by first | exact Or.inl rfl | exact Or.inr rfl) (pe_d G_law_row hr (pa_cons (pv 0) (pa_cons pe_int pa_nil))))
    (pss_cons (ps_set (i := 5) sc_law_world.nd rfl (by first | exact Or.inl rfl | exact Or.inr rfl) (pe_op op_add pe_int (pe_op op_mod (pv 1) pe_int)))
    (pss_one (ps_ret (pe_tup (pa_cons (pv 2) (pa_cons (pv 3) (pa_cons (pv 4) (pa_cons (pv 5) (pa_cons (pe_op op_mod (pe_op op_fdivW (pv 1) pe_int) pe_int) pa_nil)))))))))))))), ?_⟩
  intro ns pre B0 z D ok kr kn
  have cp : ∀ {k : Int}, 0 ≤ k ∧ k ≤ 1000000 → CPow 10 k := fun h => ⟨h.1, h.2, by decide⟩
  refine sq_asgE ok (by show 1 < 6; decide) (g_law_row 0 (g_var rfl) g_c rfl ⟨pre, (by decide : (0 : Nat) ≤ 1000)⟩) fun r hr0 z1 H1 ok1 => ?_
  have hr0 : 0 ≤ r := hr0
  have p7 : (0 : Int) < 10 ^ (7 : Int).toNat := by decide
  have p9 : (0 : Int) < 10 ^ (9 : Int).toNat := by decide
  have p12 : (0 : Int) < 10 ^ (12 : Int).toNat := by decide
  have e9 : (10 : Int) ^ (9 : Int).toNat = 1000000000 := by decide
  have e7 : (10 : Int) ^ (7 : Int).toNat = 10000000 := by decide
  have e12 : (10 : Int) ^ (12 : Int).toNat = 1000000000000 := by decide
  have d7 : CDivW r 7 := cdivN 7 (by decide) (by decide) _
  refine sq_asgE ok1 (by show 2 < 6; decide) (g_ixAny [1 + r / 7 % 1000, 1 + r / 7 % 10 ^ (7 : Int).toNat, 1 + r / 7 % 10 ^ (9 : Int).toNat] (fun i => PI i) (EvG.is (g_lst (a_cons (g_I0 g_c (g_I (g_I (g_var rfl) g_c d7) g_c (by decide))) (a_cons (g_I0 g_c (g_I (g_I (g_var rfl) g_c d7) (g_I g_c g_c (cp (by decide))) p7)) (a_cons (g_I0 g_c (g_I (g_I (g_var rfl) g_c d7) (g_I g_c g_c (cp (by decide))) p9)) a_nil))) (Nat.le_of_ble_eq_true rfl)) rfl) (g_I (g_var rfl) g_c (by decide)) (md (by decide)).1 (md (by decide)).2) fun mu hmu z2 H2 ok2 => ?_
  have hmu : 1 ≤ mu ∧ mu ≤ 1000000000 := by
    have h : mu = 1 + r / 7 % 1000 ∨ mu = 1 + r / 7 % 10 ^ (7 : Int).toNat ∨ mu = 1 + r / 7 % 10 ^ (9 : Int).toNat := by simpa using hmu
    have m1 := md (i := r / 7) (j := 1000) (by decide)
    have m2 := md (i := r / 7) p7
    have m3 := md (i := r / 7) p9
    rw [e7] at m2 h
    rw [e9] at m3 h
    omega
  refine sq_asgE ok2 (by show 3 < 6; decide) (g_ixAny [0, r / 11 % 10 ^ (12 : Int).toNat] (fun i => PI i) (EvG.is (g_lst (a_cons g_c (a_cons (g_I (g_I (g_var rfl) g_c (cdivN 11 (by decide) (by decide) _)) (g_I g_c g_c (cp (by decide))) p12) a_nil)) (Nat.le_of_ble_eq_true rfl)) rfl) (g_I (g_I (g_var rfl) g_c (cdivN 3 (by decide) (by decide) _)) g_c (by decide)) (md (by decide)).1 (md (by decide)).2) fun ob hob z3 H3 ok3 => ?_
  have hob : 0 ≤ ob ∧ ob ≤ 1000000000000 := by
    have h : ob = 0 ∨ ob = r / 11 % 10 ^ (12 : Int).toNat := by simpa using hob
    have m2 := md (i := r / 11) p12
    rw [e12] at m2 h
    omega
  refine sq_asgE ok3 (by show 4 < 6; decide) (g_law_turn (g_I (g_var rfl) g_c (cdivN 13 (by decide) (by decide) _)) (Int.ediv_nonneg hr0 (by decide))) fun t ht z4 H4 ok4 => ?_
  refine sq_asgE ok4 (by show 1 < 6; decide) (g_law_row 1 (g_var rfl) g_c rfl ⟨pre, (by decide : (1 : Nat) ≤ 1000)⟩) fun r2 hr2 z5 H5 ok5 => ?_
  have m4 := md (i := r2) (j := 4) (by decide)
  have m5 := md (i := r2 / 4) (j := 3) (by decide)
  refine sq_asg ok5 (g_I0 g_c (g_I (g_var rfl) g_c (by decide))) fun z6 H6 ok6 => ?_
  exact st_ret ok6 (EvG.imp (d := PWA K ⟨mu, ob, t, 1 + r2 % 4, r2 / 4 % 3⟩) (d' := PEx okWA (PWA K)) (g_tup (a_cons (g_var rfl) (a_cons (g_var rfl) (a_cons (g_var rfl) (a_cons (g_var rfl) (a_cons (g_I (g_I (g_var rfl) g_c (cdivN 4 (by decide) (by decide) _)) g_c (by decide)) a_nil))))) (Nat.le_of_ble_eq_true rfl)) fun H v h => ⟨_, ⟨hmu, hob, ht, by show 1 ≤ 1 + r2 % 4 ∧ 1 + r2 % 4 ≤ 4; omega, by show 0 ≤ r2 / 4 % 3 ∧ r2 / 4 % 3 ≤ 2; omega⟩, h⟩) kr
end
end K9
set_option Elab.async false
set_option linter.all false
set_option maxRecDepth 100000
set_option maxHeartbeats 4000000
/-! K9Dd: the law's helpers: data, drawn edits, pieces. -/
namespace K9
open PySem PySem.Spec PyProof.Rows L2
theorem gI_mono {m n : Int} {a : Iv} (h : gI m a) (e : m ≤ n) : gI n a := by
  obtain ⟨h1, h2, h3⟩ := h
  exact ⟨by omega, h2, by omega⟩
theorem gB_mono {m n : Int} {b : Box} (h : gB m b) (e : m ≤ n) : gB n b := ⟨gI_mono h.1 e, gI_mono h.2.1 e, gI_mono h.2.2 e⟩
section
variable {P : Program} {w : World} {K : PySem.W.Frag} {mg : Str → Option Value} {base : Heap} {G : Cn} {ta tb tc td te tf tg : TE} {E : XK}
/-! #### _law_data -/
structure DatA where
  ns : List Int
  k : Nat
  n : Str
abbrev datArgs (K : PySem.W.Frag) (a : DatA) : List Dn := [PSc K a.ns, PI (a.k : Int), PS a.n]
structure okDat (n : Str) (d : Cr × Int) : Prop where
  c : okCr d.1
  b : ∀ x ∈ d.1.burns, okBu x
  l : d.1.burns.length ≤ 1000
  s : d.1.sights = []
  n : d.1.name = n
abbrev datPre (a : DatA) : Prop := (a.ns.length ≤ 1000 ∧ a.k ≤ 900) ∧ okNm a.n
abbrev sp_law_data (K : PySem.W.Frag) : Sp := spF (datArgs K) datPre fun a => PEx (okDat a.n) (PDat K)
theorem g_law_data {ns : List Int} {i : Int} {n : Str} (k : Nat) (ha : EvG ta G (PSc K ns)) (hb : EvG tb G (PI i)) (hc : EvG tc G (PS n)) (e : i = (k : Int)) (h : (ns.length ≤ 1000 ∧ k ≤ 900) ∧ okNm n) : EvG (tCall (sp_law_data K) [] E (tCons ta (tCons tb (tCons tc tNil)))) G (PEx (okDat n) (PDat K)) := by
  subst e
  exact g_callF (args := datArgs K) (res := fun a => PEx (okDat a.n) (PDat K)) ⟨ns, k, n⟩ h (a_cons ha (a_cons hb (a_cons hc a_nil)))
theorem pick3 {x a b c : Int} (h : x ∈ [a, b, c]) : x = a ∨ x = b ∨ x = c := by simpa using h
theorem pick2 {x a b : Int} (h : x ∈ [a, b]) : x = a ∨ x = b := by simpa using h
theorem d_law_data (T : Tx w K mg) : Df P w K mg base CX0 3 "_law_data" ["_law_script", "_law_k", "_law_name"] (sp_law_data K) := by
  have G_law_row := d_law_row (P := P) (base := base) T
  have G_law_box := d_law_box (P := P) (base := base) T
  refine df_F T.F_law_data T.g_law_data T.B_law_data sc_law_data (fun _ => rfl) (fun a => [some (PSc K a.ns), some (PI (a.k : Int)), some (PS a.n), none, none, none, none, none, none, none, none, none, none]) (fun _ => rfl) fun cdv A' outer s H E hr => ⟨_, (pss_cons (ps_set (i := 3) sc_law_data.nd rfl (by first | exact Or.inl rfl | exact Or.inr rfl) (pe_d G_law_row hr (pa_cons (pv 0) (pa_cons (pv 1) pa_nil))))
    (pss_cons (ps_set (i := 4) sc_law_data.nd rfl (by first | exact Or.inl rfl | exact Or.inr rfl) (pe_ix ix_list (pe_lst (pa_cons pe_int (pa_cons pe_int (pa_cons (pe_op op_mod (pe_op op_fdivW (pv 3) pe_int) pe_int) pa_nil)))) (pe_op op_mod (pv 3) pe_int) (fun _ _ => rfl)))
    (pss_cons (ps_set (i := 5) sc_law_data.nd rfl (by first | exact Or.inl rfl | exact Or.inr rfl) (pe_op op_mod (pe_op op_fdivW (pv 3) pe_int) pe_int))
    (pss_cons (ps_set (i := 6) sc_law_data.nd rfl (by first | exact Or.inl rfl | exact Or.inr rfl) (pe_op op_add pe_int (pe_op op_mod (pe_op op_fdivW (pv 3) pe_int) pe_int)))
    (pss_cons (ps_set (i := 3) sc_law_data.nd rfl (by first | exact Or.inl rfl | exact Or.inr rfl) (pe_d G_law_row hr (pa_cons (pv 0) (pa_cons (pe_op op_add (pv 1) pe_int) pa_nil))))
    (pss_cons (ps_set (i := 7) sc_law_data.nd rfl (by first | exact Or.inl rfl | exact Or.inr rfl) (pe_d G_law_box hr (pa_cons (pe_op op_fdivW (pv 3) pe_int) (pa_cons (pe_ix ix_list (pe_lst (pa_cons pe_int (pa_cons pe_int (pa_cons pe_int pa_nil)))) (pe_op op_mod (pv 3) pe_int) (fun _ _ => rfl)) (pa_cons (pe_ix ix_list (pe_lst (pa_cons pe_int (pa_cons pe_int (pa_cons pe_int pa_nil)))) (pe_op op_mod (pe_op op_fdivW (pv 3) pe_int) pe_int) (fun _ _ => rfl)) pa_nil)))))
    (pss_cons (ps_set (i := 3) sc_law_data.nd rfl (by first | exact Or.inl rfl | exact Or.inr rfl) (pe_d G_law_row hr (pa_cons (pv 0) (pa_cons (pe_op op_add (pv 1) pe_int) pa_nil))))
    (pss_cons (ps_set (i := 8) sc_law_data.nd rfl (by first | exact Or.inl rfl | exact Or.inr rfl) (pe_d G_law_box hr (pa_cons (pe_op op_fdivW (pv 3) pe_int) (pa_cons (pe_ix ix_list (pe_lst (pa_cons pe_int (pa_cons pe_int pa_nil))) (pe_op op_mod (pv 3) pe_int) (fun _ _ => rfl)) (pa_cons (pe_ix ix_list (pe_lst (pa_cons pe_int (pa_cons pe_int (pa_cons pe_int pa_nil)))) (pe_op op_mod (pe_op op_fdivW (pv 3) pe_int) pe_int) (fun _ _ => rfl)) pa_nil)))))
    (pss_cons (ps_set (i := 3) sc_law_data.nd rfl (by first | exact Or.inl rfl | exact Or.inr rfl) (pe_d G_law_row hr (pa_cons (pv 0) (pa_cons (pe_op op_add (pv 1) pe_int) pa_nil))))
    (pss_cons (ps_set (i := 9) sc_law_data.nd rfl (by first | exact Or.inl rfl | exact Or.inr rfl) (pe_lst pa_nil))
    (pss_cons (ps_set (i := 10) sc_law_data.nd rfl (by first | exact Or.inl rfl | exact Or.inr rfl) (pe_op op_add (pv 5) (pe_op op_mod (pv 3) pe_int)))
    (pss_cons (ps_for PassesOwn.never rfl (pi_range1 rfl T.n_range (pa_cons (pe_op op_mod (pe_op op_fdivW (pv 3) pe_int) pe_int) pa_nil)) (pg_name (i := 11) sc_law_data.nd rfl (by first | exact Or.inl rfl | exact Or.inr rfl)) (pss_cons (ps_set (i := 12) sc_law_data.nd rfl (by first | exact Or.inl rfl | exact Or.inr rfl) (pe_d G_law_box hr (pa_cons (pe_op op_add (pe_op op_fdivW (pv 3) pe_int) (pe_op op_mul (pv 11) pe_int)) (pa_cons pe_int (pa_cons (pe_ix ix_list (pe_lst (pa_cons pe_int (pa_cons pe_int pa_nil))) (pe_op op_mod (pv 11) pe_int) (fun _ _ => rfl)) pa_nil)))))
    (pss_cons (ps_expr (pe_bm PySem.F.plainAttrs_list PySem.F.slot_list_append PySem.F.type_list_append mt_append (pv 9) (pa_cons (pe_tup (pa_cons (pv 10) (pa_cons (pe_op op_add (pe_op op_add (pv 10) pe_int) (pe_op op_mod (pe_op op_fdivW (pv 3) pe_int) pe_int)) (pa_cons (pv 12) pa_nil)))) pa_nil)))
    (pss_one (ps_set (i := 10) sc_law_data.nd rfl (by first | exact Or.inl rfl | exact Or.inr rfl) (pe_op op_add (pe_op op_add (pe_op op_add (pv 10) pe_int) (pe_op op_mod (pe_op op_fdivW (pv 3) pe_int) pe_int)) (pe_op op_mod (pe_op op_fdivW (pv 3) pe_int) pe_int)))))))
    (pss_one (ps_ret (pe_tup (pa_cons (pv 2) (pa_cons (pv 5) (pa_cons (pv 7) (pa_cons (pv 8) (pa_cons (pv 4) (pa_cons (pv 9) (pa_cons (pv 6) pa_nil)))))))))))))))))))))), ?_⟩
  intro a pre B0 z D ok kr kn
  obtain ⟨ns, k, n⟩ := a
  obtain ⟨⟨p1, p2⟩, p3⟩ := pre
  have p1 : ns.length ≤ 1000 := p1
  have p2 : k ≤ 900 := p2
  have p3 : okNm n := p3
  have cd : ∀ (d : Nat) (_ : 0 < d) (_ : d < 2 ^ 62) (i : Int), CDivW i (d : Int) := fun d h1 h2 i => cdivN d h1 h2 i
  refine sq_asgE ok (by show 3 < 13; decide) (g_law_row k (g_var rfl) (g_var rfl) rfl ⟨p1, by show k ≤ 1000; omega⟩) fun r hr0 z1 H1 ok1 => ?_
  have m1 := md (i := r / 5) (j := 6) (by decide)
  have m2 := md (i := r / 31) (j := 9) (by decide)
  refine sq_asgE ok1 (by show 4 < 13; decide) (g_ixAny [0, 1, r / 5 % 6] (fun i => PI i) (EvG.is (g_lst (a_cons g_c (a_cons g_c (a_cons (g_I (g_I (g_var rfl) g_c (cd 5 (by decide) (by decide) _)) g_c (by decide)) a_nil))) (Nat.le_of_ble_eq_true rfl)) rfl) (g_I (g_var rfl) g_c (by decide)) (md (by decide)).1 (md (by decide)).2) fun dr hdr z2 H2 ok2 => ?_
  have hdr : 0 ≤ dr ∧ dr ≤ 6 := by
    have h := pick3 hdr
    omega
  refine sq_asg ok2 (g_I (g_I (g_var rfl) g_c (cd 31 (by decide) (by decide) _)) g_c (by decide)) fun z3 H3 ok3 => ?_
  have ok3 : OkS B0 H [some (PSc K ns), some (PI (k : Int)), some (PS n), some (PI r), some (PI dr), some (PI (r / 31 % 9)), none, none, none, none, none, none, none] none z3 H3 := ok3
  obtain ⟨st, hst⟩ : ∃ st, r / 31 % 9 = st := ⟨_, rfl⟩
  rw [hst] at ok3
  have hst2 : 0 ≤ st ∧ st < 9 := by omega
  refine sq_asg ok3 (g_I0 g_c (g_I (g_I (g_var rfl) g_c (cd 837 (by decide) (by decide) _)) g_c (by decide))) fun z4 H4 ok4 => ?_
  refine sq_asgE ok4 (by show 3 < 13; decide) (g_law_row (k + 1) (g_var rfl) (g_I0 (g_var rfl) g_c) rfl ⟨p1, by show k + 1 ≤ 1000; omega⟩) fun r2 hr2 z5 H5 ok5 => ?_
  -- the place
  have box : ∀ {G : Cn} {ta tb tc : TE} (x : Int) (sp wd : List Int), EvG ta G (PI x) → (∀ y ∈ sp, 1 ≤ y ∧ y ≤ 5000) → (∀ y ∈ wd, 0 ≤ y ∧ y ≤ 40) → EvG tb G (PEx (fun y => y ∈ sp) fun i => PI i) → EvG tc G (PEx (fun y => y ∈ wd) fun i => PI i) → EvG (tCall (sp_law_box K) [] E0 (tCons ta (tCons tb (tCons tc tNil)))) G (PEx (gB 6000) (PBox K)) := by
    intro G ta tb tc x sp wd hx hs hw hb hc s H0 H sm sl Q q
    refine hx s H0 H sm sl _ fun v1 H1 H1' g1 hv1 => hb s H1 H1' g1.b (sl.mono g1.a) _ fun v2 H2 H2' g2 ⟨y, hy, hv2⟩ => hc s H2 H2' g2.b ((sl.mono g1.a).mono g2.a) _ fun v3 H3 H3' g3 ⟨u, hu, hv3⟩ => ?_
    show (spF _ _ _ : Sp) ([v1, v2, v3] ++ []) H3' Q E0
    rw [List.append_nil]
    exact ⟨H3, (x, y, u), g3.b, ⟨hs y hy, hw u hu⟩, ⟨hv1, hv2, hv3, trivial⟩, fun v H4 H4' g4 hv => q v H4 H4' (((g1.trans g2).trans g3).trans g4) hv⟩
  refine sq_asgE ok5 (by show 7 < 13; decide) (box (r2 / 3) [30, 300, 5000] [0, 3, 40] (g_I (g_var rfl) g_c (cd 3 (by decide) (by decide) _)) (fun y hy => by rcases pick3 hy with rfl | rfl | rfl <;> decide) (fun y hy => by rcases pick3 hy with rfl | rfl | rfl <;> decide)
    (g_ixAny [30, 300, 5000] (fun i => PI i) (EvG.is (g_lst (a_cons g_c (a_cons g_c (a_cons g_c a_nil))) (Nat.le_of_ble_eq_true rfl)) rfl) (g_I (g_var rfl) g_c (by decide)) (md (by decide)).1 (md (by decide)).2)
    (g_ixAny [0, 3, 40] (fun i => PI i) (EvG.is (g_lst (a_cons g_c (a_cons g_c (a_cons g_c a_nil))) (Nat.le_of_ble_eq_true rfl)) rfl) (g_I (g_I (g_var rfl) g_c (cd 17 (by decide) (by decide) _)) g_c (by decide)) (md (by decide)).1 (md (by decide)).2)) fun pl hpl z6 H6 ok6 => ?_
  refine sq_asgE ok6 (by show 3 < 13; decide) (g_law_row (k + 2) (g_var rfl) (g_I0 (g_var rfl) g_c) rfl ⟨p1, by show k + 2 ≤ 1000; omega⟩) fun r3 hr3 z7 H7 ok7 => ?_
  refine sq_asgE ok7 (by show 8 < 13; decide) (box (r3 / 3) [5, 60] [0, 2, 9] (g_I (g_var rfl) g_c (cd 3 (by decide) (by decide) _)) (fun y hy => by rcases pick2 hy with rfl | rfl <;> decide) (fun y hy => by rcases pick3 hy with rfl | rfl | rfl <;> decide)
    (g_ixAny [5, 60] (fun i => PI i) (EvG.is (g_lst (a_cons g_c (a_cons g_c a_nil)) (Nat.le_of_ble_eq_true rfl)) rfl) (g_I (g_var rfl) g_c (by decide)) (md (by decide)).1 (md (by decide)).2)
    (g_ixAny [0, 2, 9] (fun i => PI i) (EvG.is (g_lst (a_cons g_c (a_cons g_c (a_cons g_c a_nil))) (Nat.le_of_ble_eq_true rfl)) rfl) (g_I (g_I (g_var rfl) g_c (cd 13 (by decide) (by decide) _)) g_c (by decide)) (md (by decide)).1 (md (by decide)).2)) fun sd hsd z8 H8 ok8 => ?_
  refine sq_asgE ok8 (by show 3 < 13; decide) (g_law_row (k + 3) (g_var rfl) (g_I0 (g_var rfl) g_c) rfl ⟨p1, by show k + 3 ≤ 1000; omega⟩) fun r4 hr4 z9 H9 ok9 => ?_
  refine sq_own ok9 a_nil fun l za Ha oka => ?_
  have m4 := md (i := r4) (j := 4) (by decide)
  have m5 := md (i := r4 / 4) (j := 3) (by decide)
  have m6 := md (i := r4 / 5) (j := 3) (by decide)
  have m7 := md (i := r4 / 7) (j := 2) (by decide)
  refine sq_asg oka (g_I0 (g_var rfl) (g_I (g_var rfl) g_c (by decide))) fun zb Hb okb => ?_
  have okb : OkS B0 H [some (PSc K ns), some (PI (k : Int)), some (PS n), some (PI r4), some (PI dr), some (PI st), some (PI (3 + r / 837 % 9)), some (PBox K pl), some (PBox K sd), some (PV (.ref l)), some (PI (st + r4 % 4)), none, none] (some (owL l [])) zb Hb := okb
  refine sq (st_forRx (n := r4 / 4 % 3) (r4 / 4 % 3).toNat (fun i (x : Int × List Bu) => (x.2.length = i ∧ ∀ b ∈ x.2, okBu b) ∧ 0 ≤ x.1 ∧ x.1 ≤ 12 + 10 * (i : Int))
    (fun _ x => [some (PSc K ns), some (PI (k : Int)), some (PS n), some (PI r4), some (PI dr), some (PI st), some (PI (3 + r / 837 % 9)), some (PBox K pl), some (PBox K sd), some (PV (.ref l)), some (PI x.1), none, none])
    (fun i x => [some (PSc K ns), some (PI (k : Int)), some (PS n), some (PI r4), some (PI dr), some (PI st), some (PI (3 + r / 837 % 9)), some (PBox K pl), some (PBox K sd), some (PV (.ref l)), some (PI x.1), some (PI (0 + (i : Int))), none])
    (fun _ x => some (owL l (x.2.map (PBuT K)))) (st + r4 % 4, []) ⟨⟨rfl, fun _ h => by simp at h⟩, by show 0 ≤ st + r4 % 4; omega, by show st + r4 % 4 ≤ 12 + 10 * ((0 : Nat) : Int); omega⟩ okb (a_cons (g_I (g_I (g_var rfl) g_c (cd 4 (by decide) (by decide) _)) g_c (by decide)) a_nil) rfl ⟨by omega, by omega⟩ (fun i x hi hx => tg_name) (fun C0 C up i x hi hx s' H' okc N hN => ?_) (fun x s' H' hx okc => ?_))
  · obtain ⟨fs, xs⟩ := x
    obtain ⟨⟨hx1, hx2⟩, hx3, hx4⟩ := hx
    have hx1 : xs.length = i := hx1
    have hx3 : 0 ≤ fs := hx3
    have hx4 : fs ≤ 12 + 10 * (i : Int) := hx4
    have hi3 : i < 3 := by omega
    have m8 := md (i := 0 + (i : Int)) (j := 2) (by decide)
    refine sq_asgE okc (by show 12 < 13; decide) (box (r4 / 12 + (0 + (i : Int)) * 7919) [30] [0, 4] (g_I0 (g_I (g_var rfl) g_c (cd 12 (by decide) (by decide) _)) (g_I (g_var rfl) g_c (cm2 (j := 7919) (by decide)))) (fun y hy => by rw [show y = 30 from by simpa using hy]; decide) (fun y hy => by rcases pick2 hy with rfl | rfl <;> decide)
      (EvG.imp (d := PI 30) g_c fun H v h => ⟨30, by simp, h⟩)
      (g_ixAny [0, 4] (fun i => PI i) (EvG.is (g_lst (a_cons g_c (a_cons g_c a_nil)) (Nat.le_of_ble_eq_true rfl)) rfl) (g_I (g_var rfl) g_c (by decide)) m8.1 m8.2)) fun bx hbx zd Hd okd => ?_
    refine sq_app okd (g_var rfl) (d := PBuT K ⟨fs, fs + 1 + r4 / 5 % 3, bx⟩) (g_tup (a_cons (g_var rfl) (a_cons (g_I0 (g_I0 (g_var rfl) g_c) (g_I (g_I (g_var rfl) g_c (cd 5 (by decide) (by decide) _)) g_c (by decide))) (a_cons (g_var rfl) a_nil))) (Nat.le_of_ble_eq_true rfl)) (by rw [List.length_map]; omega) fun He oke => ?_
    refine st_asg oke (g_I0 (g_I0 (g_I0 (g_var rfl) g_c) (g_I (g_I (g_var rfl) g_c (cd 5 (by decide) (by decide) _)) g_c (by decide))) (g_I (g_I (g_var rfl) g_c (cd 7 (by decide) (by decide) _)) g_c (by decide))) fun zf Hf okf => hN _ _ (fs + 1 + r4 / 5 % 3 + r4 / 7 % 2, xs ++ [⟨fs, fs + 1 + r4 / 5 % 3, bx⟩]) ⟨⟨by rw [List.length_append, List.length_singleton]; omega, fun b hb => ?_⟩, by show 0 ≤ fs + 1 + r4 / 5 % 3 + r4 / 7 % 2; omega, by show fs + 1 + r4 / 5 % 3 + r4 / 7 % 2 ≤ 12 + 10 * ((i + 1 : Nat) : Int); omega⟩ ?_
    · rcases List.mem_append.mp hb with hb | hb
      · exact hx2 b hb
      · have e : b = ⟨fs, fs + 1 + r4 / 5 % 3, bx⟩ := by simpa using hb
        subst e
        exact ⟨⟨hx3, by show fs ≤ 100000; omega⟩, ⟨by show 0 ≤ fs + 1 + r4 / 5 % 3; omega, by show fs + 1 + r4 / 5 % 3 ≤ 100000; omega⟩, by show fs < fs + 1 + r4 / 5 % 3; omega, gB_mono hbx (by decide)⟩
    · rw [List.map_append]
      exact okf.forget [11, 12]
  · obtain ⟨fs, xs⟩ := x
    obtain ⟨⟨hx1, hx2⟩, hx3, hx4⟩ := hx
    have hx1 : xs.length = (r4 / 4 % 3).toNat := hx1
    have okd := OkS.freezeL (i := 9) okc rfl
    exact st_ret okd (EvG.imp (d := PDat K (⟨n, st, pl, sd, dr, xs, []⟩, 3 + r / 837 % 9)) (d' := PEx (okDat n) (PDat K)) (g_tup (a_cons (g_var rfl) (a_cons (g_var rfl) (a_cons (g_var rfl) (a_cons (g_var rfl) (a_cons (g_var rfl) (a_cons (g_var rfl) (a_cons (g_var rfl) a_nil))))))) (Nat.le_of_ble_eq_true rfl))
      fun H v h => ⟨_, ⟨⟨p3, ⟨hst2.1, by show st ≤ 100000; omega⟩, gB_mono hpl (by decide), gB_mono hsd (by decide), hdr.1, by show dr ≤ 1000000000000; omega⟩, hx2, by show xs.length ≤ 1000; omega, rfl, rfl⟩, h⟩) kr
/-! #### _law_wide, _law_drawn_edit -/
abbrev sp_law_wide (K : PySem.W.Frag) : Sp := spF (fun r : Int => [PI r]) (fun _ => True) fun _ => PEx (gB 60) (PBox K)
theorem g_law_wide {r : Int} (ha : EvG ta G (PI r)) : EvG (tCall (sp_law_wide K) [] E (tCons ta tNil)) G (PEx (gB 60) (PBox K)) := g_callF (args := fun r : Int => [PI r]) r trivial (a_cons ha a_nil)
theorem d_law_wide (T : Tx w K mg) : Df P w K mg base CX0 1 "_law_wide" ["_law_row_here"] (sp_law_wide K) := by
  refine df_F T.F_law_wide T.g_law_wide T.B_law_wide sc_law_wide (fun _ => rfl) (fun r => [some (PI r)]) (fun _ => rfl) fun cdv A' outer s H E hr => ⟨_, (pss_one (ps_ret (pe_tup (pa_cons (pe_tup (pa_cons (pe_un un_neg (pe_op op_mod (pe_callTy call_int1 rfl T.n_int (by decide +kernel) (pa_cons (pv 0) pa_nil)) pe_int)) (pa_cons (pe_op op_add pe_int (pe_op op_mod (pe_callTy call_int1 rfl T.n_int (by decide +kernel) (pa_cons (pv 0) pa_nil)) pe_int)) pa_nil))) (pa_cons (pe_tup (pa_cons pe_int (pa_cons (pe_op op_mod (pe_op op_fdivW (pe_callTy call_int1 rfl T.n_int (by decide +kernel) (pa_cons (pv 0) pa_nil)) pe_int) pe_int) pa_nil))) (pa_cons (pe_tup (pa_cons (pe_op op_mod (pe_op op_fdivW (pe_callTy call_int1 rfl T.n_int (by decide +kernel) (pa_cons (pv 0) pa_nil)) pe_int) pe_int) (pa_cons pe_int pa_nil))) pa_nil)))))), ?_⟩
  intro r pre B0 z D ok kr kn
  have cd : ∀ (d : Nat) (_ : 0 < d) (_ : d < 2 ^ 62) (i : Int), CDivW i (d : Int) := fun d h1 h2 i => cdivN d h1 h2 i
  have m1 := md (i := r) (j := 50) (by decide)
  have m2 := md (i := r) (j := 7) (by decide)
  have m3 := md (i := r / 3) (j := 9) (by decide)
  have m4 := md (i := r / 5) (j := 4) (by decide)
  refine st_ret ok (EvG.imp (d := PBox K ((-(r % 50), 3 + r % 7), (0, r / 3 % 9), (r / 5 % 4, 20))) (d' := PEx (gB 60) (PBox K)) (g_tup (ds := [PIv K (-(r % 50), 3 + r % 7), PIv K (0, r / 3 % 9), PIv K (r / 5 % 4, 20)]) (a_cons (g_tup (a_cons (g_U (g_I (g_cb (a_cons (g_var rfl) a_nil) r_int) g_c (by decide))) (a_cons (g_I0 g_c (g_I (g_cb (a_cons (g_var rfl) a_nil) r_int) g_c (by decide))) a_nil)) (Nat.le_of_ble_eq_true rfl))
    (a_cons (g_tup (a_cons g_c (a_cons (g_I (g_I (g_cb (a_cons (g_var rfl) a_nil) r_int) g_c (cd 3 (by decide) (by decide) _)) g_c (by decide)) a_nil)) (Nat.le_of_ble_eq_true rfl)) (a_cons (g_tup (a_cons (g_I (g_I (g_cb (a_cons (g_var rfl) a_nil) r_int) g_c (cd 5 (by decide) (by decide) _)) g_c (by decide)) (a_cons g_c a_nil)) (Nat.le_of_ble_eq_true rfl)) a_nil))) (Nat.le_of_ble_eq_true rfl)) fun H v h => ⟨_, ?_, h⟩) kr
  refine ⟨⟨?_, ?_, ?_⟩, ⟨?_, ?_, ?_⟩, ?_, ?_, ?_⟩
  · show -60 ≤ -(r % 50); omega
  · show -(r % 50) ≤ 3 + r % 7; omega
  · show 3 + r % 7 ≤ 60; omega
  · show -60 ≤ (0 : Int); decide
  · show 0 ≤ r / 3 % 9; omega
  · show r / 3 % 9 ≤ 60; omega
  · show -60 ≤ r / 5 % 4; omega
  · show r / 5 % 4 ≤ 20; omega
  · show (20 : Int) ≤ 60; decide
def PEdD (K : PySem.W.Frag) : Option Ed → Dn
  | none => PT K [PS "set body", PAny]
  | some e => PEd K e
abbrev okEdO (o : Option Ed) : Prop := ∀ e, o = some e → okEd e
abbrev PEdO (K : PySem.W.Frag) : Dn := PEx okEdO (PEdD K)
theorem ed_i {e : Ed} (h : okEd e) {H : Hp} {v : V} (k : (PEd K e).holds H v) : (PEdO K).holds H v := ⟨some e, fun e' he => by cases he; exact h, k⟩
theorem g_Craft5E (T : Tx w K mg) {n : Str} {t d : Int} {pl : Box} {p : Box → Prop} (ha : EvG ta G (PS n)) (hb : EvG tb G (PI t)) (hc : EvG tc G (PBox K pl)) (hd : EvG td G (PEx p (PBox K))) (he : EvG te G (PI d)) (h : ∀ b, p b → okCr ⟨n, t, pl, b, d, [], []⟩) :
    EvG (tMake (He.ga K "Craft") (sp_Craft K) (crDv K) E (tCons ta (tCons tb (tCons tc (tCons td (tCons te tNil)))))) G (PEx p fun b => PCr K ⟨n, t, pl, b, d, [], []⟩) := fun s H0 H sm sl Q q => by
  refine (a_cons ha (a_cons hb (a_cons hc (a_cons hd (a_cons he a_nil))))) s H0 H sm sl _ fun vs H1 H' g1 hvs => ?_
  match vs, hvs with
  | [v0, v1, v2, v3, v4], hvs =>
    obtain ⟨h0, h1, h2, ⟨b, hpb, h3⟩, h4, _⟩ := hvs
    have sl5 : Sl H1 [some (PS n), some (PI t), some (PBox K pl), some (PBox K b), some (PI d)] (L2.start (["a", "b", "c", "d", "e"] : List Str) [v0, v1, v2, v3, v4]) := sl_start (H0 := H1) (N := (["a", "b", "c", "d", "e"] : List Str)) (vs := [v0, v1, v2, v3, v4]) (ds := [PS n, PI t, PBox K pl, PBox K b, PI d]) (ps := (["a", "b", "c", "d", "e"] : List Str)) ⟨h0, h1, h2, h3, h4, trivial⟩ rfl
    have q5 := g_Craft5 (E := E) (G := [some (PS n), some (PI t), some (PBox K pl), some (PBox K b), some (PI d)]) T (c := ⟨n, t, pl, b, d, [], []⟩) (g_var (i := 0) rfl) (g_var (i := 1) rfl) (g_var (i := 2) rfl) (g_var (i := 3) rfl) (g_var (i := 4) rfl) (h b hpb) rfl rfl _ H1 H' g1.b sl5 Q fun v H2 H'' g2 hv => q v H2 H'' (g1.trans g2) ⟨b, hpb, hv⟩
    obtain ⟨w0, e0, w1, e1, w2, e2, w3, e3, w4, e4, k⟩ := q5
    have e0 : some (some v0) = some (some w0) := e0
    have e1 : some (some v1) = some (some w1) := e1
    have e2 : some (some v2) = some (some w2) := e2
    have e3 : some (some v3) = some (some w3) := e3
    have e4 : some (some v4) = some (some w4) := e4
    cases e0
    cases e1
    cases e2
    cases e3
    cases e4
    exact k
  | [], hvs => exact hvs.elim
  | [_], hvs => exact hvs.2.elim
  | [_, _], hvs => exact hvs.2.2.elim
  | [_, _, _], hvs => exact hvs.2.2.2.elim
  | [_, _, _, _], hvs => exact hvs.2.2.2.2.elim
  | _ :: _ :: _ :: _ :: _ :: _ :: _, hvs => exact hvs.2.2.2.2.2.elim
theorem g_inL {i : Int} {ns : List Int} (ha : EvG ta G (PI i)) (hb : EvG tb G (PL (ns.map fun n => PI n))) : EvG (tOp (rIn K false) ta tb) G (PB (inV (.int i) (ns.map V.int))) :=
  g_op ha hb fun x y H0 H sm hx ⟨p, vs, e, hs, hv⟩ Q q => by
    have ex : x = .int i := hx
    have ev := pints hv
    subst ex ev
    refine ⟨p, ns.map V.int, e, .inl (SqL.of (sm _ _ hs)), rfl, ?_, q _ H0 H (.refl sm) rfl⟩
    rw [List.all_eq_true]
    intro v hv
    obtain ⟨n, _, rfl⟩ := List.mem_map.mp hv
    rfl
structure DrA where
  ns : List Int
  k : Nat
abbrev namesL : List Str := ["a", "b"]
abbrev drArgs (K : PySem.W.Frag) (a : DrA) : List Dn := [PSc K a.ns, PI (a.k : Int), PL (namesL.map fun x => PS x)]
abbrev sp_law_drawn_edit (K : PySem.W.Frag) : Sp := spF (drArgs K) (fun a => a.ns.length ≤ 1000 ∧ a.k ≤ 900) fun _ => PEdO K
theorem g_law_drawn_edit {ns : List Int} {i : Int} (k : Nat) (ha : EvG ta G (PSc K ns)) (hb : EvG tb G (PI i)) (hc : EvG tc G (PL (namesL.map fun x => PS x))) (e : i = (k : Int)) (h : ns.length ≤ 1000 ∧ k ≤ 900) : EvG (tCall (sp_law_drawn_edit K) [] E (tCons ta (tCons tb (tCons tc tNil)))) G (PEdO K) := by
  subst e
  exact g_callF (args := drArgs K) ⟨ns, k⟩ h (a_cons ha (a_cons hb (a_cons hc a_nil)))
theorem d_law_drawn_edit (T : Tx w K mg) : Df P w K mg base CX0 4 "_law_drawn_edit" ["_law_script", "_law_k", "_law_names"] (sp_law_drawn_edit K) := by
  have G_law_row := d_law_row (P := P) (base := base) T
  have G_law_wide := d_law_wide (P := P) (base := base) T
  have G_Body := d_Body (P := P) (base := base) T
  have G_Craft5 := d_Craft5 (P := P) (base := base) T
  have G_Burn := d_Burn (P := P) (base := base) T
  have G_Sighting := d_Sighting (P := P) (base := base) T
  have G_Site := d_Site (P := P) (base := base) T
  refine df_F T.F_law_drawn_edit T.g_law_drawn_edit T.B_law_drawn_edit sc_law_drawn_edit (fun _ => rfl) (fun a => [some (PSc K a.ns), some (PI (a.k : Int)), some (PL (namesL.map fun x => PS x)), none, none, none, none, none, none]) (fun _ => rfl) fun cdv A' outer s H E hr => ⟨_, (pss_cons (ps_set (i := 3) sc_law_drawn_edit.nd rfl (by first | exact Or.inl rfl | exact Or.inr rfl) (pe_d G_law_row hr (pa_cons (pv 0) (pa_cons (pv 1) pa_nil))))
    (pss_cons (ps_set (i := 4) sc_law_drawn_edit.nd rfl (by first | exact Or.inl rfl | exact Or.inr rfl) (pe_ix ix_list (pv 2) (pe_op op_mod (pe_op op_fdivW (pv 3) pe_int) (pe_callB call_len_seq rfl T.n_len PySem.boot_len (pa_cons (pv 2) pa_nil))) (fun _ _ => rfl)))
    (pss_cons (ps_set (i := 5) sc_law_drawn_edit.nd rfl (by first | exact Or.inl rfl | exact Or.inr rfl) (pe_op op_fdivW (pv 3) pe_int))
    (pss_cons (ps_set (i := 6) sc_law_drawn_edit.nd rfl (by first | exact Or.inl rfl | exact Or.inr rfl) (pe_op op_mod (pv 5) pe_int))
    (pss_cons (ps_set (i := 7) sc_law_drawn_edit.nd rfl (by first | exact Or.inl rfl | exact Or.inr rfl) (pe_d G_law_wide hr (pa_cons (pe_op op_fdivW (pv 5) pe_int) pa_nil)))
    (pss_cons (ps_set (i := 8) sc_law_drawn_edit.nd rfl (by first | exact Or.inl rfl | exact Or.inr rfl) (pe_op op_mod (pv 3) pe_int))
    (pss_cons (ps_if (pt_cmpR op_eq (pv 8) pe_int (nomark _)) (pss_one (ps_ret (pe_tup (pa_cons pe_str (pa_cons (pe_k G_Body hr (pa_cons (pe_op op_add pe_int (pe_op op_mod (pv 5) pe_int)) (pa_cons (pe_op op_mod (pe_op op_fdivW (pv 5) pe_int) pe_int) (pa_cons (pe_ix ix_list (pe_lst (pa_cons (pe_tup (pa_cons pe_int (pa_cons pe_int (pa_cons pe_int pa_nil)))) (pa_cons (pe_tup (pa_cons pe_int (pa_cons pe_int (pa_cons pe_int pa_nil)))) pa_nil))) (pe_op op_mod (pe_op op_fdivW (pv 5) pe_int) pe_int) (fun _ _ => rfl)) pa_nil)))) pa_nil))))) pss_nil)
    (pss_cons (ps_if (pt_cmpR op_eq (pv 8) pe_int (nomark _)) (pss_one (ps_ret (pe_ix ix_list (pe_lst (pa_cons (pe_tup (pa_cons pe_str (pa_cons (pe_op op_add pe_int (pe_op op_mod (pv 5) pe_int)) pa_nil))) (pa_cons (pe_tup (pa_cons pe_str (pa_cons (pe_op op_mod (pv 5) pe_int) pa_nil))) pa_nil))) (pe_op op_mod (pe_op op_fdivW (pv 5) pe_int) pe_int) (fun _ _ => rfl)))) pss_nil)
    (pss_cons (ps_if (pt_cmpR op_in_seq (pv 8) (pe_lst (pa_cons pe_int (pa_cons pe_int pa_nil))) rfl) (pss_one (ps_ret (pe_tup (pa_cons pe_str (pa_cons (pe_k G_Craft5 hr (pa_cons (pv 4) (pa_cons (pv 6) (pa_cons (pv 7) (pa_cons (pe_d G_law_wide hr (pa_cons (pe_op op_fdivW (pv 5) pe_int) pa_nil)) (pa_cons (pe_op op_mod (pv 5) pe_int) pa_nil)))))) pa_nil))))) pss_nil)
    (pss_cons (ps_if (pt_cmpR op_eq (pv 8) pe_int (nomark _)) (pss_one (ps_ret (pe_tup (pa_cons pe_str (pa_cons (pv 4) pa_nil))))) pss_nil)
    (pss_cons (ps_if (pt_cmpR op_eq (pv 8) pe_int (nomark _)) (pss_one (ps_ret (pe_tup (pa_cons pe_str (pa_cons (pv 4) (pa_cons (pe_op op_mod (pv 5) pe_int) pa_nil)))))) pss_nil)
    (pss_cons (ps_if (pt_cmpR op_in_seq (pv 8) (pe_lst (pa_cons pe_int (pa_cons pe_int pa_nil))) rfl) (pss_one (ps_ret (pe_tup (pa_cons pe_str (pa_cons (pv 4) (pa_cons (pe_k G_Burn hr (pa_cons (pv 6) (pa_cons (pe_op op_add (pe_op op_add (pv 6) pe_int) (pe_op op_mod (pe_op op_fdivW (pv 5) pe_int) pe_int)) (pa_cons (pv 7) pa_nil)))) pa_nil)))))) pss_nil)
    (pss_cons (ps_if (pt_cmpR op_eq (pv 8) pe_int (nomark _)) (pss_one (ps_ret (pe_tup (pa_cons pe_str (pa_cons (pv 4) (pa_cons (pv 6) pa_nil)))))) pss_nil)
    (pss_cons (ps_if (pt_cmpR op_in_seq (pv 8) (pe_lst (pa_cons pe_int (pa_cons pe_int pa_nil))) rfl) (pss_one (ps_ret (pe_tup (pa_cons pe_str (pa_cons (pv 4) (pa_cons (pe_k G_Sighting hr (pa_cons (pv 6) (pa_cons (pv 7) pa_nil))) pa_nil)))))) pss_nil)
    (pss_cons (ps_if (pt_cmpR op_eq (pv 8) pe_int (nomark _)) (pss_one (ps_ret (pe_tup (pa_cons pe_str (pa_cons (pv 4) (pa_cons (pv 6) pa_nil)))))) pss_nil)
    (pss_one (ps_ret (pe_ix ix_list (pe_lst (pa_cons (pe_tup (pa_cons pe_str (pa_cons (pe_k G_Site hr (pa_cons (pv 4) (pa_cons (pe_tup (pa_cons pe_int (pa_cons (pv 6) (pa_cons (pe_op op_mod (pv 5) pe_int) pa_nil)))) pa_nil))) pa_nil))) (pa_cons (pe_tup (pa_cons pe_str (pa_cons (pv 4) pa_nil))) pa_nil))) (pe_op op_mod (pe_op op_fdivW (pv 5) pe_int) pe_int) (fun _ _ => rfl))))))))))))))))))), ?_⟩
  intro a pre B0 z D ok kr kn
  obtain ⟨ns, k⟩ := a
  obtain ⟨p1, p2⟩ := pre
  have p1 : ns.length ≤ 1000 := p1
  have p2 : k ≤ 900 := p2
  have cd : ∀ (d : Nat) (_ : 0 < d) (_ : d < 2 ^ 62) (i : Int), CDivW i (d : Int) := fun d h1 h2 i => cdivN d h1 h2 i
  refine sq_asgE ok (by show 3 < 9; decide) (g_law_row k (g_var rfl) (g_var rfl) rfl ⟨p1, by show k ≤ 1000; omega⟩) fun r hr0 z1 H1 ok1 => ?_
  have hr0 : 0 ≤ r := hr0
  refine sq_asgE ok1 (by show 4 < 9; decide) (g_ixAny namesL (fun x => PS x) (g_var rfl) (g_I (g_I (g_var rfl) g_c (cd 13 (by decide) (by decide) _)) (g_cb (a_cons (g_var rfl) a_nil) r_lenL) (by decide)) (md (by decide)).1 (md (by decide)).2) fun n hn z2 H2 ok2 => ?_
  have hn : okNm n := by
    have h : n = "a" ∨ n = "b" := by simpa [namesL] using hn
    exact h
  refine sq_asg ok2 (g_I (g_var rfl) g_c (cd 1000 (by decide) (by decide) _)) fun z3 H3 ok3 => ?_
  have ok3 : OkS B0 H [some (PSc K ns), some (PI (k : Int)), some (PL (namesL.map fun x => PS x)), some (PI r), some (PS n), some (PI (r / 1000)), none, none, none] none z3 H3 := ok3
  have hm0 : 0 ≤ r / 1000 := Int.ediv_nonneg hr0 (by decide)
  generalize r / 1000 = m at ok3 hm0
  refine sq_asg ok3 (g_I (g_var rfl) g_c (by decide)) fun z4 H4 ok4 => ?_
  have ok4 : OkS B0 H [some (PSc K ns), some (PI (k : Int)), some (PL (namesL.map fun x => PS x)), some (PI r), some (PS n), some (PI m), some (PI (m % 9)), none, none] none z4 H4 := ok4
  have ht0 := md (i := m) (j := 9) (by decide)
  generalize m % 9 = t at ok4 ht0
  have ht : okT t := ⟨ht0.1, by omega⟩
  refine sq_asgE ok4 (by show 7 < 9; decide) (g_law_wide (g_I (g_var rfl) g_c (cd 9 (by decide) (by decide) _))) fun bx hbx z5 H5 ok5 => ?_
  refine sq_asg ok5 (g_I (g_var rfl) g_c (by decide)) fun z6 H6 ok6 => ?_
  have ok6 : OkS B0 H [some (PSc K ns), some (PI (k : Int)), some (PL (namesL.map fun x => PS x)), some (PI r), some (PS n), some (PI m), some (PI t), some (PBox K bx), some (PI (r % 13))] none z6 H6 := ok6
  generalize r % 13 = kd at ok6
  have m3 := md (i := m) (j := 3) (by decide)
  have m4 := md (i := m) (j := 4) (by decide)
  have m33 := md (i := m / 3) (j := 2) (by decide)
  have m62 := md (i := m / 6) (j := 2) (by decide)
  have m74 := md (i := m / 7) (j := 4) (by decide)
  have m72 := md (i := m / 7) (j := 2) (by decide)
  -- set body
  refine sq_if0 ok6 (t_test (g_op (g_var rfl) g_c (r_eq rfl))) (fun hb H7 ok7 => ?_) fun hb H7 ok7 => ?_
  · have tl : ∀ i : Nat, i < 2 → ∃ tt : Int × Int × Int, ([(1, 0, 1), (3, 4, 5)].map (P3 K))[i]? = some (P3 K tt) ∧ okTu tt := fun i hi => by
      match i, hi with
      | 0, _ => exact ⟨_, rfl, ⟨by decide, by decide, by unfold bd; decide⟩⟩
      | 1, _ => exact ⟨_, rfl, ⟨by decide, by decide, by unfold bd; decide⟩⟩
    obtain ⟨tt, ht1, ht2⟩ := tl (m / 6 % 2).toNat (by omega)
    refine st_ret ok7 (EvG.imp (d := PT K [PS "set body", PBd K ⟨1 + m % 3, m / 3 % 2, tt⟩]) (d' := PEdO K) (g_tup (a_cons g_c (a_cons (g_Body (b := ⟨1 + m % 3, m / 3 % 2, tt⟩) (g_I0 g_c (g_I (g_var rfl) g_c (by decide))) (g_I (g_I (g_var rfl) g_c (cd 3 (by decide) (by decide) _)) g_c (by decide))
      (g_ixL (m / 6 % 2).toNat (EvG.is (d' := PL ([(1, 0, 1), (3, 4, 5)].map (P3 K))) (g_lst (a_cons (g_tup (a_cons g_c (a_cons g_c (a_cons g_c a_nil))) (Nat.le_of_ble_eq_true rfl)) (a_cons (g_tup (a_cons g_c (a_cons g_c (a_cons g_c a_nil))) (Nat.le_of_ble_eq_true rfl)) a_nil)) (Nat.le_of_ble_eq_true rfl)) rfl) (g_I (g_I (g_var rfl) g_c (cd 6 (by decide) (by decide) _)) g_c (by decide)) (by omega) ht1) ?_) a_nil)) (Nat.le_of_ble_eq_true rfl)) fun H v h => ⟨none, (fun e he => by cases he), ?_⟩) kr
    · exact ⟨by show 1 ≤ 1 + m % 3 ∧ 1 + m % 3 ≤ 10 ^ 30; omega, by show 0 ≤ m / 3 % 2 ∧ m / 3 % 2 ≤ 10 ^ 30; omega, ht2.n, ht2.r, ht2.x⟩
    · obtain ⟨a, vs, e, hs, hv⟩ := h
      match vs, hv with
      | [v0, v1], hv => exact ⟨a, _, e, hs, hv.1, trivial, trivial⟩
      | [], hv => exact hv.elim
      | [_], hv => exact hv.2.elim
      | _ :: _ :: _ :: _, hv => exact hv.2.2.elim
  -- set stride, set fineness
  refine sq_if0 ok7 (t_test (g_op (g_var rfl) g_c (r_eq rfl))) (fun hb H8 ok8 => ?_) fun hb H8 ok8 => ?_
  · exact st_ret ok8 (EvG.imp (d' := PEdO K) (g_ixAny [Ed.stride (1 + m % 3), Ed.fine (m % 3)] (PEd K) (EvG.is (d' := PL ([Ed.stride (1 + m % 3), Ed.fine (m % 3)].map (PEd K))) (g_lst (a_cons (g_tup (a_cons g_c (a_cons (g_I0 g_c (g_I (g_var rfl) g_c (by decide))) a_nil)) (Nat.le_of_ble_eq_true rfl)) (a_cons (g_tup (a_cons g_c (a_cons (g_I (g_var rfl) g_c (by decide)) a_nil)) (Nat.le_of_ble_eq_true rfl)) a_nil)) (Nat.le_of_ble_eq_true rfl)) rfl) (g_I (g_I (g_var rfl) g_c (cd 3 (by decide) (by decide) _)) g_c (by decide)) m33.1 m33.2)
      fun H v ⟨e, he, h⟩ => ed_i (by
        have he : e = Ed.stride (1 + m % 3) ∨ e = Ed.fine (m % 3) := by simpa using he
        rcases he with rfl | rfl
        · show 1 ≤ 1 + m % 3 ∧ 1 + m % 3 ≤ 1000
          omega
        · show 0 ≤ m % 3 ∧ m % 3 ≤ 6
          omega) h) kr
  -- add craft
  refine sq_if0 ok8 (t_test (g_inL (ns := [2, 3]) (g_var rfl) (EvG.is (g_lst (a_cons g_c (a_cons g_c a_nil)) (Nat.le_of_ble_eq_true rfl)) rfl))) (fun hb H9 ok9 => ?_) fun hb H9 ok9 => ?_
  · refine st_ret ok9 (EvG.imp (d := PT K [PS "add craft", PEx (gB 60) fun b => PCr K ⟨n, t, bx, b, m % 3, [], []⟩]) (d' := PEdO K) (g_tup (a_cons g_c (a_cons (g_Craft5E T (g_var rfl) (g_var rfl) (g_var rfl) (g_law_wide (g_I (g_var rfl) g_c (cd 11 (by decide) (by decide) _))) (g_I (g_var rfl) g_c (by decide)) ?_) a_nil)) (Nat.le_of_ble_eq_true rfl)) fun H v h => ?_) kr
    · exact fun b hb => ⟨hn, ht, gB_mono hbx (by decide), gB_mono hb (by decide), m3.1, by show m % 3 ≤ 1000000000000; omega⟩
    · obtain ⟨a, vs, e, hs, hv⟩ := h
      match vs, hv with
      | [v0, v1], hv =>
        obtain ⟨h0, ⟨b, hb, h1⟩, _⟩ := hv
        exact ed_i (e := .addC ⟨n, t, bx, b, m % 3, [], []⟩) ⟨hn, ht, gB_mono hbx (by decide), gB_mono hb (by decide), m3.1, by show m % 3 ≤ 1000000000000; omega⟩ ⟨a, _, e, hs, h0, h1, trivial⟩
      | [], hv => exact hv.elim
      | [_], hv => exact hv.2.elim
      | _ :: _ :: _ :: _, hv => exact hv.2.2.elim
  -- drop craft
  refine sq_if0 ok9 (t_test (g_op (g_var rfl) g_c (r_eq rfl))) (fun hb Ha oka => ?_) fun hb Ha oka => ?_
  · exact st_ret oka (EvG.imp (d := PEd K (.dropC n)) (d' := PEdO K) (g_tup (ds := [PS "drop craft", PS n]) (a_cons g_c (a_cons (g_var rfl) a_nil)) (Nat.le_of_ble_eq_true rfl)) fun H v h => ed_i (e := .dropC n) trivial h) kr
  -- set drift
  refine sq_if0 oka (t_test (g_op (g_var rfl) g_c (r_eq rfl))) (fun hb Hb okb => ?_) fun hb Hb okb => ?_
  · exact st_ret okb (EvG.imp (d := PEd K (.drift n (m % 4))) (d' := PEdO K) (g_tup (ds := [PS "set drift", PS n, PI (m % 4)]) (a_cons g_c (a_cons (g_var rfl) (a_cons (g_I (g_var rfl) g_c (by decide)) a_nil))) (Nat.le_of_ble_eq_true rfl)) fun H v h => ed_i (e := .drift n (m % 4)) ⟨m4.1, by show m % 4 ≤ 1000000000000; omega⟩ h) kr
  -- add burn
  refine sq_if0 okb (t_test (g_inL (ns := [6, 7]) (g_var rfl) (EvG.is (g_lst (a_cons g_c (a_cons g_c a_nil)) (Nat.le_of_ble_eq_true rfl)) rfl))) (fun hb Hc okc => ?_) fun hb Hc okc => ?_
  · have hbu : okBu ⟨t, t + 1 + m / 7 % 4, bx⟩ := ⟨ht, ⟨by show 0 ≤ t + 1 + m / 7 % 4; omega, by show t + 1 + m / 7 % 4 ≤ 100000; omega⟩, by show t < t + 1 + m / 7 % 4; omega, gB_mono hbx (by decide)⟩
    exact st_ret okc (EvG.imp (d := PEd K (.addB n ⟨t, t + 1 + m / 7 % 4, bx⟩)) (d' := PEdO K) (g_tup (ds := [PS "add burn", PS n, PBu K ⟨t, t + 1 + m / 7 % 4, bx⟩]) (a_cons g_c (a_cons (g_var rfl) (a_cons (g_Burn (b := ⟨t, t + 1 + m / 7 % 4, bx⟩) (g_var rfl) (g_I0 (g_I0 (g_var rfl) g_c) (g_I (g_I (g_var rfl) g_c (cd 7 (by decide) (by decide) _)) g_c (by decide))) (g_var rfl) hbu) a_nil))) (Nat.le_of_ble_eq_true rfl)) fun H v h => ed_i (e := .addB n ⟨t, t + 1 + m / 7 % 4, bx⟩) hbu h) kr
  -- drop burn
  refine sq_if0 okc (t_test (g_op (g_var rfl) g_c (r_eq rfl))) (fun hb Hd okd => ?_) fun hb Hd okd => ?_
  · exact st_ret okd (EvG.imp (d := PEd K (.dropB n t)) (d' := PEdO K) (g_tup (ds := [PS "drop burn", PS n, PI t]) (a_cons g_c (a_cons (g_var rfl) (a_cons (g_var rfl) a_nil))) (Nat.le_of_ble_eq_true rfl)) fun H v h => ed_i (e := .dropB n t) trivial h) kr
  -- add sighting
  refine sq_if0 okd (t_test (g_inL (ns := [9, 10]) (g_var rfl) (EvG.is (g_lst (a_cons g_c (a_cons g_c a_nil)) (Nat.le_of_ble_eq_true rfl)) rfl))) (fun hb He oke => ?_) fun hb He oke => ?_
  · have hsg : okSg ⟨t, bx⟩ := ⟨ht, gB_mono hbx (by decide)⟩
    exact st_ret oke (EvG.imp (d := PEd K (.addG n ⟨t, bx⟩)) (d' := PEdO K) (g_tup (ds := [PS "add sighting", PS n, PSg K ⟨t, bx⟩]) (a_cons g_c (a_cons (g_var rfl) (a_cons (g_Sighting (b := ⟨t, bx⟩) (g_var rfl) (g_var rfl) hsg) a_nil))) (Nat.le_of_ble_eq_true rfl)) fun H v h => ed_i (e := .addG n ⟨t, bx⟩) hsg h) kr
  -- drop sighting
  refine sq_if0 oke (t_test (g_op (g_var rfl) g_c (r_eq rfl))) (fun hb Hf okf => ?_) fun hb Hf okf => ?_
  · exact st_ret okf (EvG.imp (d := PEd K (.dropG n t)) (d' := PEdO K) (g_tup (ds := [PS "drop sighting", PS n, PI t]) (a_cons g_c (a_cons (g_var rfl) (a_cons (g_var rfl) a_nil))) (Nat.le_of_ble_eq_true rfl)) fun H v h => ed_i (e := .dropG n t) trivial h) kr
  -- sites
  have hsi : okSi ⟨n, 1, t, m % 3⟩ := ⟨hn, fun h => absurd (show (1 : Int) = 0 from h.1) (by decide), ⟨(by decide : -MOST ≤ (1 : Int)), (by decide : (1 : Int) ≤ MOST)⟩, ⟨by show -1000000000000000 ≤ t; omega, by show t ≤ 1000000000000000; omega⟩, by show -1000000000000000 ≤ m % 3; omega, by show m % 3 ≤ 1000000000000000; omega⟩
  exact st_ret okf (EvG.imp (d' := PEdO K) (g_ixAny [Ed.addS ⟨n, 1, t, m % 3⟩, Ed.dropS n] (PEd K) (EvG.is (d' := PL ([Ed.addS ⟨n, 1, t, m % 3⟩, Ed.dropS n].map (PEd K))) (g_lst (a_cons (g_tup (a_cons g_c (a_cons (g_Site (b := ⟨n, 1, t, m % 3⟩) (g_var rfl) (g_tup (a_cons g_c (a_cons (g_var rfl) (a_cons (g_I (g_var rfl) g_c (by decide)) a_nil))) (Nat.le_of_ble_eq_true rfl)) hsi) a_nil)) (Nat.le_of_ble_eq_true rfl)) (a_cons (g_tup (a_cons g_c (a_cons (g_var rfl) a_nil)) (Nat.le_of_ble_eq_true rfl)) a_nil)) (Nat.le_of_ble_eq_true rfl)) rfl) (g_I (g_I (g_var rfl) g_c (cd 7 (by decide) (by decide) _)) g_c (by decide)) m72.1 m72.2)
    fun H v ⟨e, he, h⟩ => ed_i (by
      have he : e = Ed.addS ⟨n, 1, t, m % 3⟩ ∨ e = Ed.dropS n := by simpa using he
      rcases he with rfl | rfl
      · exact hsi
      · trivial) h) kr
/-! #### _law_pieces -/
abbrev PPcT (K : PySem.W.Frag) (p : Pc) : Dn := PT K [PI p.b, PI p.e, PT K (p.parts.map (PBox K))]
abbrev PPs (K : PySem.W.Frag) (c : Co) : Dn := PT K [PS c.2, PL (c.1.map (PPcT K))]
abbrev dPc (p : Pc) : PyData := .tuple [.int p.b, .int p.e, .tuple (p.parts.map dB)]
abbrev dPs (c : Co) : PyData := .tuple [.str c.2, .list (c.1.map dPc)]
theorem dpPc (p : Pc) : DpG K (PPcT K p) (dPc p) := dp_T (.cons dp_I (.cons dp_I (.cons (dp_T (DpL.map (dpB K) _)) .nil)))
theorem dpPs (c : Co) : DpG K (PPs K c) (dPs c) := dp_T (.cons dp_S (.cons (dp_L (DpL.map dpPc _)) .nil))
abbrev endS (x : Str) : Prop := x = sLost ∨ x = sVoid ∨ x = sWhole
theorem nextR_end (bd : Bd) (c : Cr) (t : Int) (rows : List Row) : endS (nextR bd c t rows).2 := by
  unfold nextR
  split
  · exact .inl rfl
  · split
    · exact .inr (.inl rfl)
    · exact .inr (.inr rfl)
theorem courseGo_end {bd : Bd} {stride : Int} {c : Cr} {u : Int} : ∀ (n : Nat) (b t : Int) (rows : List Row) (ps : List Pc), endS (courseGo bd stride c u n b t rows ps).2 ∧ (courseGo bd stride c u n b t rows ps).1.length ≤ ps.length + n
  | 0, _, _, _, ps => ⟨.inr (.inl rfl), Nat.le_refl _⟩
  | n + 1, b, t, rows, ps => by
    unfold courseGo
    have hl : (if t = b + stride - 1 then ps ++ [⟨b, t, rows.map (·.2)⟩] else ps : List Pc).length ≤ ps.length + 1 := by
      split <;> simp
    simp only
    generalize (if t = b + stride - 1 then ps ++ [⟨b, t, rows.map (·.2)⟩] else ps : List Pc) = ps' at hl
    split
    · exact ⟨.inr (.inr rfl), by show ps'.length ≤ _; omega⟩
    · split
      · exact ⟨nextR_end _ _ _ _, by show ps'.length ≤ _; omega⟩
      · split
        · obtain ⟨h1, h2⟩ := courseGo_end (bd := bd) (stride := stride) (c := c) (u := u) n (t + 1) (t + 1) ((nextR bd c t rows).1.map fun r => startRow r.1) ps'
          exact ⟨h1, by omega⟩
        · obtain ⟨h1, h2⟩ := courseGo_end (bd := bd) (stride := stride) (c := c) (u := u) n b (t + 1) (nextR bd c t rows).1 ps'
          exact ⟨h1, by omega⟩
theorem coOf_end {a : CoA} (h : okA a) : endS (coOf a).2 ∧ (coOf a).1.length ≤ 100000 := by
  have h1 := h.s
  have h2 := h.st
  have h3 := h.u
  unfold coOf courseOf
  split
  · exact ⟨.inr (.inr rfl), by show 0 ≤ 100000; decide⟩
  · simp only
    split
    · exact ⟨.inr (.inl rfl), by show 0 ≤ 100000; decide⟩
    · obtain ⟨h4, h5⟩ := courseGo_end (bd := a.ct.body) (stride := a.ct.stride) (c := a.c) (u := a.u) ((a.u + a.ct.stride - a.c.start).toNat + 1) a.c.start a.c.start ((firstS a.ct.fine.toNat a.c).map startRow) []
      refine ⟨h4, Nat.le_trans h5 ?_⟩
      rw [List.length_nil]
      omega
theorem dPs_ok {c : Co} (h : endS c.2) : SeqAt.shaped (dPs c) = true := by
  refine shaped_of ?_ ?_
  · show (PyData.strOk c.2 && (PyData.canLayAll0 (c.1.map dPc) && true)) = true
    have e : PyData.strOk c.2 = true := by
      rcases h with h | h | h <;> rw [h] <;> decide +kernel
    rw [e, canAll (fun p => by
      show (true && (true && (PyData.canLayAll0 (p.parts.map dB) && true))) = true
      rw [canAll fun _ => rfl]
      rfl)]
    rfl
  · have h1 := depAll (f := dPc) (n := 4) (fun p => by
      have h2 := depAll (f := dB) (n := 2) (fun x => Nat.le_refl _) p.parts
      show max 0 (max 0 (max (PyData.depthAll (p.parts.map dB) + 1) 0)) + 1 ≤ 4
      omega) c.1
    show max 0 (max (PyData.depthAll (c.1.map dPc) + 1) 0) + 1 ≤ 64
    omega
abbrev pcA (a : Ct × Cr) : CoA := ⟨a.1, a.2, 8⟩
abbrev sp_law_pieces (K : PySem.W.Frag) : Sp := spF (fun a : Ct × Cr => [PCt K a.1, PCr K a.2]) (fun a => okA (pcA a)) fun a => PPs K (coOf (pcA a))
theorem g_law_pieces {ct : Ct} {c : Cr} (ha : EvG ta G (PCt K ct)) (hb : EvG tb G (PCr K c)) (h : okA ⟨ct, c, 8⟩) : EvG (tCall (sp_law_pieces K) [] E (tCons ta (tCons tb tNil))) G (PPs K (coOf ⟨ct, c, 8⟩)) := g_callF (args := fun a : Ct × Cr => [PCt K a.1, PCr K a.2]) (res := fun a : Ct × Cr => PPs K (coOf (pcA a))) (ct, c) h (a_cons ha (a_cons hb a_nil))
theorem d_law_pieces (T : Tx w K mg) : Df P w K mg base CX0 7 "_law_pieces" ["_law_contents", "_law_craft_here"] (sp_law_pieces K) := by
  have G_course := d_course (P := P) (base := base) T
  refine df_F T.F_law_pieces T.g_law_pieces T.B_law_pieces sc_law_pieces (fun _ => rfl) (fun a => [some (PCt K a.1), some (PCr K a.2), none, none]) (fun _ => rfl) fun cdv A' outer s H E hr => ⟨_, (pss_cons (ps_set (i := 2) sc_law_pieces.nd rfl (by first | exact Or.inl rfl | exact Or.inr rfl) (pe_d G_course hr (pa_cons (pv 0) (pa_cons (pv 1) (pa_cons pe_int pa_nil)))))
    (pss_one (ps_ret (pe_tup (pa_cons (pe_fld (pv 2) rfl) (pa_cons (pe_lc (own := [("_law_piece", 3)]) (g := (gName 3)) rfl sc_law_pieces.nd (pi_list (pe_fld (pv 2) rfl)) (blkOk_by (N := N_law_pieces) (sc := defScope S_law_pieces) (by decide +kernel)) (fun _ _ _ _ _ => (pg_name (i := 3) sc_law_pieces.nd rfl (Or.inl rfl))) (fun _ _ _ _ _ => pts_nil) (fun _ _ _ _ _ => (pe_tup (pa_cons (pe_fldK (K := K) (pv 3) rfl) (pa_cons (pe_fldK (K := K) (pv 3) rfl) (pa_cons (pe_fldK (K := K) (pv 3) rfl) pa_nil)))))) pa_nil)))))), ?_⟩
  intro a pre B0 z D ok kr kn
  refine sq_asg ok (g_course (a := pcA a) (g_var rfl) (g_var rfl) g_c pre) fun z1 H1 ok1 => ?_
  exact st_ret ok1 (g_tup (a_cons (g_fld (g_var rfl) T.cl_Course T.na_Course_ending rfl) (a_cons (g_lcL0 (vs := [3]) (coOf (pcA a)).1 (PPc K) (PPcT K) (fun p => [some (PCt K a.1), some (PCr K a.2), some (PCo K (coOf (pcA a))), some (PPc K p)]) (g_fld (g_var rfl) T.cl_Course T.na_Course_pieces rfl) (coOf_end pre).2 (fun _ _ => tc_name)
    (fun p _ => g_tup (a_cons (g_fld (g_var rfl) T.cl_Piece T.na_Piece_begin rfl) (a_cons (g_fld (g_var rfl) T.cl_Piece T.na_Piece_end rfl) (a_cons (g_fld (g_var rfl) T.cl_Piece T.na_Piece_parts rfl) a_nil))) (Nat.le_of_ble_eq_true rfl))) a_nil)) (Nat.le_of_ble_eq_true rfl)) kr
end
end K9
set_option Elab.async false
set_option linter.all false
set_option maxRecDepth 100000
set_option maxHeartbeats 4000000
/-! K9De: plain: edits keep contents well; what is not named is as at the beginning. -/
namespace K9
open PySem PySem.Spec PyProof.Rows L2
theorem okCt.up {n m : Nat} {ct : Ct} (h : okCt n ct) (e : n ≤ m) : okCt m ct := ⟨h.b, h.sf, h.c, h.s, Nat.le_trans h.lc e, Nat.le_trans h.ls e⟩
theorem filt_two {A : Type} (p q : A → Bool) (hpq : ∀ x, p x = true → q x = false) : ∀ xs : List A, (xs.filter p).length + (xs.filter q).length ≤ xs.length
  | [] => Nat.le_refl _
  | x :: xs => by
    have ih := filt_two p q hpq xs
    rw [List.length_cons]
    cases hp : p x with
    | true =>
      rw [List.filter_cons_of_pos hp, List.filter_cons_of_neg (by rw [hpq x hp]; exact Bool.false_ne_true), List.length_cons]
      omega
    | false =>
      rw [List.filter_cons_of_neg (by rw [hp]; exact Bool.false_ne_true)]
      cases hq : q x with
      | true =>
        rw [List.filter_cons_of_pos hq, List.length_cons]
        omega
      | false =>
        rw [List.filter_cons_of_neg (by rw [hq]; exact Bool.false_ne_true)]
        omega
theorem lt_asym {a b : List Nat} (h : a < b) : ¬ b < a := (fun k => absurd (List.lt_trans h k) (List.lt_irrefl _))
theorem ltS_asym {x y : Str} (h : ltS x y = true) : ltS y x = false := by
  unfold ltS at *
  exact decide_eq_false (lt_asym (of_decide_eq_true h))
theorem putN_len {A : Type} (nm : A → Str) (rows : List A) (x : A) : (putN nm rows x).length ≤ rows.length + 1 := by
  unfold putN
  rw [List.length_append, List.length_append, List.length_singleton]
  have := filt_two (fun r => ltS (nm r) (nm x)) (fun r => ltS (nm x) (nm r)) (fun r h => ltS_asym h) rows
  omega
theorem okCt.withCr {n m : Nat} {ct : Ct} {cs : List Cr} (h : okCt n ct) (e : n ≤ m) (hc : ∀ c ∈ cs, okF c) (hl : cs.length ≤ m) : okCt m (withC ct cs) := ⟨h.b, h.sf, hc, h.s, hl, Nat.le_trans h.ls e⟩
theorem okCt.put {n : Nat} {ct : Ct} {c : Cr} (h : okCt n ct) (hc : okF c) : okCt (n + 1) (withC ct (putN Cr.name ct.crafts c)) :=
  h.withCr (Nat.le_succ n) (fun x hx => by
    rcases putN_mem hx with rfl | hx
    · exact hc
    · exact h.c x hx) (Nat.le_trans (putN_len _ _ _) (Nat.succ_le_succ h.lc))
theorem okCt.chg {n : Nat} {ct : Ct} {c : Cr} {d : Int} {bs : List Bu} {ss : List Sg} (h : okCt n ct) (hc : okF c) (hd : okDr d) (hb : ∀ x ∈ bs, okBu x) (hs : ∀ x ∈ ss, okSg x) (lb : bs.length ≤ 1000) (ls : ss.length ≤ 1000) : okCt (n + 1) (chgC ct c d bs ss) :=
  h.put ⟨hc.c.chg hd, hb, hs, lb, ls⟩
theorem applyM_ok {n : Nat} {ct ct' : Ct} {e : Ed} (h : okCt n ct) (he : okEd e) (hm : applyM ct e = some ct') : okCt (n + 1) ct' := by
  cases e with
  | stride x =>
    have e2 := Option.some.inj hm
    subst e2
    exact ⟨h.b, ⟨he, h.sf.2⟩, h.c, h.s, Nat.le_succ_of_le h.lc, Nat.le_succ_of_le h.ls⟩
  | fine x =>
    have e2 := Option.some.inj hm
    subst e2
    exact ⟨h.b, ⟨h.sf.1, he⟩, h.c, h.s, Nat.le_succ_of_le h.lc, Nat.le_succ_of_le h.ls⟩
  | addC x =>
    have hm : addC ct x = some ct' := hm
    unfold addC at hm
    split at hm
    · cases hm
    · have e2 := Option.some.inj hm
      subst e2
      exact h.put ⟨okCr.bare he, fun _ hx => by simp at hx, fun _ hx => by simp at hx, by show 0 ≤ 1000; decide, by show 0 ≤ 1000; decide⟩
  | dropC x =>
    have hm : (findC ct.crafts x).map _ = some ct' := hm
    obtain ⟨c, _, e2⟩ := Option.map_eq_some_iff.mp hm
    subst e2
    exact h.withCr (Nat.le_succ n) (fun c hc => h.c c (List.mem_filter.mp hc).1) (Nat.le_succ_of_le (Nat.le_trans (List.length_filter_le _ _) h.lc))
  | addS x =>
    have hm : addS ct x = some ct' := hm
    unfold addS at hm
    split at hm
    · cases hm
    · have e2 := Option.some.inj hm
      subst e2
      exact ⟨h.b, h.sf, h.c, fun y hy => by
        rcases putN_mem hy with rfl | hy
        · exact he
        · exact h.s y hy, Nat.le_succ_of_le h.lc, Nat.le_trans (putN_len _ _ _) (Nat.succ_le_succ h.ls)⟩
  | dropS x =>
    have hm : (findS ct.sites x).map _ = some ct' := hm
    obtain ⟨c, _, e2⟩ := Option.map_eq_some_iff.mp hm
    subst e2
    exact ⟨h.b, h.sf, h.c, fun y hy => h.s y (List.mem_filter.mp hy).1, Nat.le_succ_of_le h.lc, Nat.le_succ_of_le (Nat.le_trans (List.length_filter_le _ _) h.ls)⟩
  | drift x d =>
    have hm : (findC ct.crafts x).map _ = some ct' := hm
    obtain ⟨c, hc, e2⟩ := Option.map_eq_some_iff.mp hm
    subst e2
    have hf := h.c c (findC_mem hc).1
    exact h.chg hf he hf.b hf.s hf.lb hf.ls
  | addB x b =>
    have hm : addBu ct x b = some ct' := hm
    unfold addBu at hm
    cases hc : findC ct.crafts x with
    | none =>
      rw [hc] at hm
      cases hm
    | some c =>
      rw [hc] at hm
      have hf := h.c c (findC_mem hc).1
      simp only at hm
      split at hm
      · cases hm
      · split at hm
        · cases hm
        · split at hm
          · cases hm
          · rename_i hl
            have e2 := Option.some.inj hm
            subst e2
            refine h.chg hf hf.c.d (fun y hy => ?_) hf.s ?_ hf.ls
            · rcases List.mem_append.mp hy with hy | hy
              · rcases List.mem_append.mp hy with hy | hy
                · exact hf.b y (List.mem_filter.mp (List.mem_filter.mp hy).1).1
                · have e3 : y = b := by simpa using hy
                  rw [e3]
                  exact he
              · exact hf.b y (List.mem_filter.mp (List.mem_filter.mp hy).1).1
            · have h1 := List.length_filter_le (fun o : Bu => decide (o.b < b.b)) (c.burns.filter fun o => !decide (o.b = b.b))
              have h2 := List.length_filter_le (fun o : Bu => decide (o.b > b.b)) (c.burns.filter fun o => !decide (o.b = b.b))
              rw [List.length_append, List.length_append, List.length_singleton]
              omega
  | dropB x t =>
    have hm : dropB ct x t = some ct' := hm
    unfold dropB at hm
    cases hc : findC ct.crafts x with
    | none =>
      rw [hc] at hm
      cases hm
    | some c =>
      rw [hc] at hm
      have hf := h.c c (findC_mem hc).1
      simp only at hm
      split at hm
      · cases hm
      · have e2 := Option.some.inj hm
        subst e2
        exact h.chg hf hf.c.d (fun y hy => hf.b y (List.mem_filter.mp hy).1) hf.s (Nat.le_trans (List.length_filter_le _ _) hf.lb) hf.ls
  | addG x b =>
    have hm : addG ct x b = some ct' := hm
    unfold addG at hm
    cases hc : findC ct.crafts x with
    | none =>
      rw [hc] at hm
      cases hm
    | some c =>
      rw [hc] at hm
      have hf := h.c c (findC_mem hc).1
      simp only at hm
      split at hm
      · cases hm
      · split at hm
        · cases hm
        · rename_i hl
          have e2 := Option.some.inj hm
          subst e2
          refine h.chg hf hf.c.d hf.b (fun y hy => ?_) hf.lb ?_
          · rcases List.mem_append.mp hy with hy | hy
            · rcases List.mem_append.mp hy with hy | hy
              · exact hf.s y (List.mem_filter.mp (List.mem_filter.mp hy).1).1
              · have e3 : y = b := by simpa using hy
                rw [e3]
                exact he
            · exact hf.s y (List.mem_filter.mp (List.mem_filter.mp hy).1).1
          · have h1 := List.length_filter_le (fun o : Sg => decide (o.t < b.t)) (c.sights.filter fun o => !decide (o.t = b.t))
            have h2 := List.length_filter_le (fun o : Sg => decide (o.t > b.t)) (c.sights.filter fun o => !decide (o.t = b.t))
            rw [List.length_append, List.length_append, List.length_singleton]
            omega
  | dropG x t =>
    have hm : dropG ct x t = some ct' := hm
    unfold dropG at hm
    cases hc : findC ct.crafts x with
    | none =>
      rw [hc] at hm
      cases hm
    | some c =>
      rw [hc] at hm
      have hf := h.c c (findC_mem hc).1
      simp only at hm
      split at hm
      · cases hm
      · have e2 := Option.some.inj hm
        subst e2
        exact h.chg hf hf.c.d hf.b (fun y hy => hf.s y (List.mem_filter.mp hy).1) hf.lb (Nat.le_trans (List.length_filter_le _ _) hf.ls)
/-! ### what is not named is as at the beginning -/
abbrev rules (a b : Ct) : Prop := a.body = b.body ∧ a.stride = b.stride ∧ a.fine = b.fine
def KeepI (c0 now : Ct) (named : List Str) : Prop := ∀ c ∈ now.crafts, c.name ∉ named → c ∈ c0.crafts ∧ rules now c0
theorem keep_self (c0 : Ct) (named : List Str) : KeepI c0 c0 named := fun c hc _ => ⟨hc, rfl, rfl, rfl⟩
theorem keep_step {c0 a b : Ct} {named : List Str} (h : KeepI c0 a named) : KeepI c0 b (named ++ touchedN a b ++ goneC a b) := fun c hc hn => by
  have h1 : c.name ∉ named := fun z => hn (List.mem_append_left _ (List.mem_append_left _ z))
  have h2 : c.name ∉ touchedN a b := fun z => hn (List.mem_append_left _ (List.mem_append_right _ z))
  have h3 : tchB a b c = false := by
    cases q : tchB a b c with
    | false => rfl
    | true => exact absurd (List.mem_map.mpr ⟨c, List.mem_filter.mpr ⟨hc, q⟩, rfl⟩) h2
  unfold tchB at h3
  cases q : findC a.crafts c.name with
  | none =>
    rw [q] at h3
    cases h3
  | some old =>
    rw [q] at h3
    obtain ⟨h4, h5⟩ := Bool.or_eq_false_iff.mp h3
    have h6 : PyData.eqv (dCr old) (dCr c) = true := by
      cases z : PyData.eqv (dCr old) (dCr c) with
      | true => rfl
      | false =>
        rw [z] at h5
        cases h5
    have e := eCr_of h6
    subst e
    obtain ⟨k1, k2, k3, k4⟩ := h old (findC_mem q).1 h1
    obtain ⟨r1, r2, r3⟩ := rulesD_of h4
    exact ⟨k1, r1.symm.trans k2, r2.symm.trans k3, r3.symm.trans k4⟩
theorem coOf_eq {a b : Ct} {c : Cr} (h : rules a b) : coOf ⟨a, c, 8⟩ = coOf ⟨b, c, 8⟩ := by
  obtain ⟨h1, h2, h3⟩ := h
  unfold coOf
  rw [h1, h2, h3]
theorem okA_of {n : Nat} {ct : Ct} {c : Cr} (h : okCt n ct) (hc : c ∈ ct.crafts) : okA ⟨ct, c, 8⟩ :=
  ⟨h.b.bd, (h.c c hc).okC, h.sf.1, h.sf.2, (h.c c hc).c.t.1, by show (8 : Int) ≤ 1000; decide⟩
theorem eqv_same {c : Co} (h : endS c.2) : PyData.eqv (dPs c) (dPs c) = true := SeqAt.eqv_refl _ (SeqAt.canLay_of_shaped (dPs_ok h))
theorem touchedN_len (a b : Ct) : (touchedN a b).length ≤ b.crafts.length := by
  unfold touchedN
  rw [List.length_map]
  exact List.length_filter_le _ _
theorem goneC_len (a b : Ct) : (goneC a b).length ≤ a.crafts.length := by
  unfold goneC
  rw [List.length_map]
  exact List.length_filter_le _ _
end K9
set_option Elab.async false
set_option linter.all false
set_option maxRecDepth 100000
set_option maxHeartbeats 4000000
/-! K9Df: the law's walk. -/
namespace K9
open PySem PySem.Spec PyProof.Rows L2
section
variable {K : PySem.W.Frag} {G : Cn} {W : Option Ow} {ta tb tc td te tv : TE} {t : TA} {tt tu' : TT} {B0 B : Hp} {s : L2.St} {H : Hp} {D : Ends} {rest tu tw tbd : TS} {d : Dn} {E : XK}
/-- a target over any of a kind -/
theorem sq_asgTE {A : Type} {p : A → Prop} {f : A → Dn} {g : TG} (G' : A → Cn) (h : OkS B0 B G W s H) (ev : EvG te G (PEx p f)) (tg : ∀ x, TgG g G (f x) (G' x)) (k : ∀ x, p x → ∀ s' H', OkS B0 B (G' x) W s' H' → rest D s' H') : tSeq (tAsg te g) rest D s H :=
  h.ev ev fun v H0' H' gr sl ow ⟨x, hx, hv⟩ => tg x _ _ _ _ gr.b sl hv _ fun s' sl' => k x hx _ _ ⟨H0', gr, sl', ow⟩
/-- both ways meet in some state -/
theorem sq_ifME {A : Type} {b : Bool} (Pm : A → Prop) (G' : A → Cn) (W' : A → Option Ow) (h : OkS B0 B G W s H) (ev : EvT tt G b) (h1 : b = true → ∀ H', OkS B0 B G W s H' → ∀ N : L2.St → Hp → Prop, (∀ y s2 H2, Pm y → OkS B0 B (G' y) (W' y) s2 H2 → N s2 H2) → tu { D with nx := N } s H')
    (h2 : b = false → ∀ H', OkS B0 B G W s H' → ∀ N : L2.St → Hp → Prop, (∀ y s2 H2, Pm y → OkS B0 B (G' y) (W' y) s2 H2 → N s2 H2) → tw { D with nx := N } s H') (k : ∀ y s2 H2, Pm y → OkS B0 B (G' y) (W' y) s2 H2 → rest D s2 H2) : tSeq (tIfS tt tu tw) rest D s H :=
  sq_if h ev (fun e H' ok => h1 e H' ok _ k) (fun e H' ok => h2 e H' ok _ k)
/-! tests with our own object -/
def EvTW (w : Ow) (tt : TT) (G : Cn) (b : Bool) : Prop := ∀ (s : L2.St) (H0 H : Hp), Same H0 H → Sl H0 G s → Own w H0 H → ∀ Q : Bool → Hp → Prop, (∀ H0' H', Grow H0 H H0' H' → Q b H') → tt s H Q
theorem tw_of {w : Ow} {b : Bool} (h : EvT tt G b) : EvTW w tt G b := fun s H0 H sm sl _ Q q => h s H0 H sm sl Q q
theorem tw_test {w : Ow} {k : Bool} (h : EvW w ta G (PB k)) : EvTW w (tTest ta) G k := fun s H0 H sm sl ow Q q => h s H0 H sm sl ow _ fun v H1 H' g hv => ⟨k, hv, q H1 H' g⟩
theorem tw_and {w : Ow} {j k : Bool} (h1 : EvTW w tt G j) (h2 : j = true → EvTW w tu' G k) : EvTW w (tAnd tt tu') G (j && k) := fun s H0 H sm sl ow Q q => h1 s H0 H sm sl ow _ fun H1 H' g => by
  cases j with
  | true => exact h2 rfl s H1 H' g.b (sl.mono g.a) (ow.grow g) Q fun H2 H'' g2 => q H2 H'' (g.trans g2)
  | false => exact q H1 H' g
theorem st_ifW {w : Ow} {b : Bool} (h : OkS B0 B G (some w) s H) (ev : EvTW w tt G b) (h1 : b = true → ∀ H', OkS B0 B G (some w) s H' → tu D s H') (h2 : b = false → ∀ H', OkS B0 B G (some w) s H' → tw D s H') : tIfS tt tu tw D s H := by
  obtain ⟨H0, g1, sl, ow⟩ := h.ex
  refine ev s H0 H g1.b sl (OkS.own ow) _ fun H0' H' g => ?_
  have ok : OkS B0 B G (some w) s H' := ⟨H0', g1.trans g, sl.mono g.a, ow.grow g⟩
  cases b with
  | true => exact h1 rfl H' ok
  | false => exact h2 rfl H' ok
theorem g_notInS {x : Str} {ws : List Str} (ha : EvG ta G (PS x)) (hb : EvG tb G (PWs ws)) : EvG (tOp (rIn K true) ta tb) G (PB (!inV (.str x) (ws.map V.str))) :=
  g_op ha hb fun u v H0 H sm hx ⟨p, vs, e, hs, hv⟩ Q q => by
    have ex : u = .str x := hx
    have ev : vs = ws.map V.str := by
      have e3 : (ws.map fun x => PS x) = (ws.map V.str).map PV := by rw [List.map_map]; rfl
      rw [e3] at hv
      exact hv.pv
    subst ex ev
    refine ⟨p, ws.map V.str, e, .inl (SqL.of (sm _ _ hs)), rfl, ?_, q _ H0 H (.refl sm) rfl⟩
    rw [List.all_eq_true]
    intro v hv
    obtain ⟨n, _, rfl⟩ := List.mem_map.mp hv
    rfl
theorem notIn_of {x : Str} {ws : List Str} (h : (!inV (.str x) (ws.map V.str)) = true) : x ∉ ws := fun hm => by
  have e : inV (.str x) (ws.map V.str) = true := by
    unfold inV
    exact List.any_eq_true.mpr ⟨.str x, List.mem_map.mpr ⟨x, hm, rfl⟩, by simp [eqV]⟩
  rw [e] at h
  cases h
/-- for .. in a tuple that our object holds -/
theorem st_forTW {Y : Type} {g : TG} {w : Ow} (xs : List Y) (f : Y → Dn) (Gt : Y → Cn) (h : OkS B0 B G (some w) s H) (ev : EvW w te G (PT K (xs.map f))) (tg : ∀ y, TgG g G (f y) (Gt y))
    (body : ∀ C0 C, ∀ y ∈ xs, ∀ s' H', OkS C0 C (Gt y) (some w) s' H' → ∀ N : L2.St → Hp → Prop, (∀ s2 H2, OkS C0 C G (some w) s2 H2 → N s2 H2) → tbd { D with nx := N, ct := N, bk := D.nx } s' H')
    (k : ∀ s' H', OkS B0 B G (some w) s' H' → D.nx s' H') : tFor (iTup K te) g tbd D s H := by
  refine h.evW ev fun v H0 H1 gr sl ow ⟨a, vs, e, hl, ha⟩ => ?_
  obtain ⟨ok, gb⟩ := OkS.base gr sl ow
  have hl1 : SqT K H1 a vs := same_t gr.b hl
  refine ⟨a, e, ⟨vs, hl1⟩, for_tup (K := K) (a := a) (xs := vs) (fun _ s' H' => OkS H0 (offW (some w) H1) G (some w) s' H') ok (fun i s' H' hi p => ?_) (fun i y s' H' hx p => ?_) (fun s' H' p => k s' H' (OkS.up gb p))⟩
  · obtain ⟨H2, g2, _⟩ := p.ex
    exact same_t (g2.a.trans g2.b) hl
  · obtain ⟨d, hd, hdx⟩ := ha.at_ hx
    obtain ⟨x, hx2, rfl⟩ := map_at hd
    obtain ⟨H2, g2, sl2, ow2⟩ := p.ex
    exact tg x s' H2 H' y g2.b sl2 ((f x).mono g2.a hdx) _ fun s'' sl'' => body H0 (offW (some w) H1) x (List.mem_of_getElem? hx2) s'' H' ⟨H2, g2, sl'', ow2⟩ _ fun s2 H2 p => p
/-! ### a dict of ours, by texts -/
def TblH (H : Hp) (f : Str → Option Dn) (ks : List (Key × V)) : Prop := ∀ n d, f n = some d → ∃ v, valV ks (.inr n) = some v ∧ d.holds H v
theorem TblH.mono {H H' : Hp} {f : Str → Option Dn} {ks : List (Key × V)} (e : Same H H') (h : TblH H f ks) : TblH H' f ks := fun n d k => by
  obtain ⟨v, h1, h2⟩ := h n d k
  exact ⟨v, h1, d.mono e h2⟩
def owD (l : Addr) (m : Nat) (f : Str → Option Dn) : Ow := ⟨l, fun H o => ∃ ks, o = .dK ks ∧ ks.length ≤ m ∧ TblH H f ks, fun e ⟨ks, h1, h2, h3⟩ => ⟨ks, h1, h2, h3.mono e⟩⟩
def PDi (f : Str → Option Dn) : Dn := ⟨fun H v => ∃ a ks, v = .ref a ∧ H a = some (.dK ks) ∧ TblH H f ks, fun e ⟨a, ks, h1, h2, h3⟩ => ⟨a, ks, h1, e _ _ h2, h3.mono e⟩⟩
theorem sq_newD {i : Nat} (h : OkS B0 B G none s H) (k : ∀ l s' H', OkS B0 B (G.set i (some (PV (.ref l)))) (some (owD l 0 fun _ => none)) s' H' → rest D s' H') : tSeq (tAsg tDNewK (gName i)) rest D s H := by
  obtain ⟨H0, g, sl, ow⟩ := h.ex
  intro p hp
  exact k p _ _ ⟨H0, ⟨g.a, g.b.trans (same_new hp), g.c.trans (same_new hp), g.d⟩, sl.set (d := PV (.ref p)) rfl, ⟨g.b.free hp, g.c.free hp, _, upd_same, [], rfl, Nat.le_refl _, fun n d e => nomatch e⟩⟩
theorem st_dput {l : Addr} {m : Nat} {f : Str → Option Dn} {n : Str} (h : OkS B0 B G (some (owD l m f)) s H) (ev : EvG tv G d) (eo : EvG ta G (PV (.ref l))) (en : EvG tb G (PS n)) (hm : m < 1000) (k : ∀ H', OkS B0 B G (some (owD l (m + 1) fun x => if x = n then some d else f x)) s H' → D.nx s H') : sDPut ta tb tv D s H := by
  unfold sDPut
  obtain ⟨H0, g0, sl0, ow0⟩ := h.ex
  refine ev.at_ g0.b sl0 fun v H1 H1' g1 sl1 hv => eo.at_ g1.b sl1 fun x H2 H2' g2 sl2 hx => en.at_ g2.b sl2 fun y H3 H3' g3 sl3 hy => ?_
  have hx : x = .ref l := hx
  have hy : y = .str n := hy
  subst hx hy
  have gr := ((g0.trans g1).trans g2).trans g3
  obtain ⟨h1, h2, o, h3, ks, eo2, h4, h5⟩ := ((ow0.grow g1).grow g2).grow g3
  have e2 : o = .dK ks := eo2
  subst e2
  have h1' : H3 l = none := h1
  have h2' : B l = none := h2
  have h3' : H3' l = some (.dK ks) := h3
  refine ⟨l, _, rfl, DPut.k (k := .inr n) h3' (Nat.lt_of_lt_of_le (show ks.length < 100000 by omega) (by decide)), ?_⟩
  have hl := length_putK ks (.inr n) v
  refine k _ ⟨H3, ⟨gr.a, fun a u q => ?_, fun a u q => ?_, gr.d⟩, sl3, h1', h2', _, upd_same, _, rfl, by omega, fun x' d' e => ?_⟩
  · rw [upd_ne (ne_of_none q h1')]
    exact gr.b _ _ q
  · rw [upd_ne (ne_of_none q h2')]
    exact gr.c _ _ q
  · rw [valV_put]
    have e : (if x' = n then some d else f x') = some d' := e
    by_cases hx : x' = n
    · rw [if_pos hx] at e
      have e' : d = d' := Option.some.inj e
      subst e'
      exact ⟨v, if_pos (by rw [hx]), d.mono (g2.a.trans g3.a) hv⟩
    · rw [if_neg hx] at e
      obtain ⟨u, hu1, hu2⟩ := h5 x' d' e
      exact ⟨u, (if_neg fun z => hx (Sum.inr.inj z)).trans hu1, hu2⟩
theorem OkS.freezeD {l : Addr} {m i : Nat} {f : Str → Option Dn} (h : OkS B0 B G (some (owD l m f)) s H) (hi : G[i]? = some (some (PV (.ref l)))) : OkS B0 B (G.set i (some (PDi f))) none s H :=
  h.freeze (w := owD l m f) hi fun H0 o ⟨ks, e, _, ht⟩ hl => ⟨l, ks, rfl, by rw [← e]; exact hl, ht⟩
theorem g_dget {f : Str → Option Dn} {n : Str} (ha : EvG ta G (PDi f)) (hb : EvG tb G (PS n)) (hf : f n = some d) : EvG (tDGet ta tb) G d := fun s H0 H sm sl Q k =>
  ha.at_ sm sl fun x H1 H1' g1 sl1 ⟨a, ks, e, hk, ht⟩ => hb.at_ g1.b sl1 fun y H2 H2' g2 sl2 hy => by
    have hy : y = .str n := hy
    subst e hy
    obtain ⟨v, h1, h2⟩ := ht n d hf
    exact ⟨a, v, rfl, by rw [← h1]; exact DGet.k (k := .inr n) ((g1.trans g2).b _ _ (g2.a _ _ hk)), k v H2 H2' (g1.trans g2) (d.mono g2.a h2)⟩
/-- y = C(..), the instance our own -/
theorem sq_mkOwn {C : Addr} {A : Type} {args : A → List Dn} {pre : A → Prop} {fl : A → List (Str × Dn)} {i : Nat} (x : A) (hp : pre x) (h : OkS B0 B G none s H) (ea : EvA t G (args x)) (k : ∀ p dx s' H', OkS B0 B (G.set i (some (PV (.ref p)))) (some (owI p C dx (fl x))) s' H' → rest D s' H') :
    tSeq (tAsg (tMake C (spI C args pre fl) [] E t) (gName i)) rest D s H := by
  obtain ⟨H0, g0, sl0, _⟩ := h.ex
  refine ea s H0 H g0.b sl0 _ fun vs H1 H' g1 hvs y dy hy hdy hne => ?_
  have hny : y ≠ dy := fun z => hne z.symm
  have gr := g0.trans g1
  have h1y : H1 y = none := gr.b.free hy
  have s1 : Same H' (upd H' dy (.own y)) := same_new hdy
  have hy2 : upd H' dy (HO.own y) y = none := by rw [upd_ne hny]; exact hy
  have s2 : Same (upd H' dy (.own y)) (upd (upd H' dy (.own y)) y (.ins C dy [])) := same_new hy2
  have ed : ∀ b o, H' b = some o → del (upd (upd H' dy (.own y)) y (.ins C dy [])) y b = some o := fun b o e => by
    rw [del_ne (ne_of_none e hy)]
    exact s2 _ _ (s1 _ _ e)
  refine ⟨H1, x, y, dy, vs ++ [], rfl, upd_same, h1y, fun b o e => s2 _ _ (s1 _ _ (gr.b _ _ e)), hp, by rw [List.append_nil]; exact hvs, fun H2 H3 g2 hn2 ⟨us, h3, h4⟩ => ⟨rfl, ?_⟩⟩
  refine k y dy _ _ ⟨H2, ⟨gr.a.trans g2.a, g2.b, fun a o e => g2.c _ _ (ed a o (gr.c _ _ e)), fun a ha hn => ?_⟩, ((sl0.mono g1.a).mono g2.a).set (d := PV (.ref y)) rfl, hn2, gr.c.free hy, _, h3, us, rfl, h4⟩
  cases q : H1 a with
  | some u => exact gr.d a ha (by rw [q]; exact fun z => nomatch z)
  | none =>
    have z := g2.d a q hn
    cases r : H' a with
    | none => exact gr.c.free r
    | some o =>
      rw [ed a o r] at z
      cases z
end
/-! ### the beginning -/
section
variable {P : Program} {w : World} {K : PySem.W.Frag} {mg : Str → Option Value} {base : Heap} {G : Cn} {ta tb tc td te : TE} {E : XK} {B0 B : Hp} {s : L2.St} {H : Hp} {D : Ends} {W : Option Ow}
theorem g_law_madeE {n : Str} (ha : EvG ta G (PEx (okDat n) (PDat K))) (hb : EvG tb G (PL [])) : EvG (tCall (sp_law_made K) [] E (tCons ta (tCons tb tNil))) G (PEx (okDat n) fun d => PCr K d.1) := fun s H0 H sm sl Q q =>
  (a_cons ha (a_cons hb a_nil)) s H0 H sm sl _ fun vs H1 H' g1 hvs => by
    show spF _ _ _ (vs ++ []) H' Q E
    rw [List.append_nil]
    match vs, hvs with
    | [v0, v1], hvs =>
      obtain ⟨⟨d, hd, h0⟩, h1, _⟩ := hvs
      exact ⟨H1, d, g1.b, ⟨hd.c, hd.b, hd.l, hd.s⟩, ⟨h0, h1, trivial⟩, fun v H2 H'' g2 hv => q v H2 H'' (g1.trans g2) ⟨d, hd, hv⟩⟩
    | [], hvs => exact hvs.elim
    | [_], hvs => exact hvs.2.elim
    | _ :: _ :: _ :: _, hvs => exact hvs.2.2.elim
theorem st_addC {i : Nat} {ct : Ct} {p : Cr × Int → Prop} (h : OkS B0 B G W s H) (ha : EvG ta G (PCt K ct)) (hb : EvG tb G (PT K [PS "add craft", PEx p fun d => PCr K d.1])) (hp : ∀ d, p d → okAp ct (.addC d.1)) (hn : ∀ d, p d → addC ct d.1 ≠ none)
    (k : ∀ d, p d → ∀ ct', addC ct d.1 = some ct' → ∀ s' H', OkS B0 B (G.set i (some (PCt K ct'))) W s' H' → D.nx s' H') : tAsg (tCall (sp_apply_edit K) [] E0 (tCons ta (tCons tb tNil))) (gName i) D s H := by
  obtain ⟨H0, g0, sl, ow⟩ := h.ex
  unfold tAsg tCall
  refine (a_cons ha (a_cons hb a_nil)) s H0 H g0.b sl _ fun vs H1 H' g1 hvs => ?_
  show spX K _ _ _ (vs ++ []) H' _ E0
  rw [List.append_nil]
  match vs, hvs with
  | [v0, v1], hvs =>
    obtain ⟨h0, ⟨a, us, e, hs, hu⟩, _⟩ := hvs
    match us, hu with
    | [u0, u1], hu =>
      obtain ⟨k0, ⟨d, hd, k1⟩, _⟩ := hu
      refine ⟨H1, (ct, .addC d.1), (g0.trans g1).b, hp d hd, ⟨h0, ⟨a, [u0, u1], e, hs, k0, k1, trivial⟩, trivial⟩, fun dd e2 v H2 H'' g2 hv => ?_, fun e2 => ?_⟩
      · obtain ⟨ct', hc, rfl⟩ := Option.map_eq_some_iff.mp e2
        exact k d hd ct' hc _ _ ⟨H2, (g0.trans g1).trans g2, ((sl.mono g1.a).mono g2.a).set hv, (ow.grow g1).grow g2⟩
      · exact absurd (Option.map_eq_none_iff.mp e2) (hn d hd)
    | [], hu => exact hu.elim
    | [_], hu => exact hu.2.elim
    | _ :: _ :: _ :: _, hu => exact hu.2.2.elim
  | [], hvs => exact hvs.elim
  | [_], hvs => exact hvs.2.elim
  | _ :: _ :: _ :: _, hvs => exact hvs.2.2.elim
def nmK (i : Nat) : Str := if i = 0 then "a" else "b"
theorem nmK_ok (i : Nat) : okNm (nmK i) := by
  unfold nmK
  split
  · exact .inl rfl
  · exact .inr rfl
/-- the first contents, after i crafts -/
def Bg (c : Ct) (i : Nat) (x : Ct) : Prop := ∃ l : List Cr, x = withC c l ∧ l.length = i ∧ ∀ j y, l[j]? = some y → bare y ∧ y.name = nmK j
theorem bare_f {y : Cr} (h : bare y) : okF y := ⟨h.1, by rw [h.2.1]; intro x hx; simp at hx, by rw [h.2.2]; intro x hx; simp at hx, by rw [h.2.1]; show 0 ≤ 1000; decide, by rw [h.2.2]; show 0 ≤ 1000; decide⟩
theorem Bg.okCt {c x : Ct} {i : Nat} (h : Bg c i x) (hi : i ≤ 2) (hc : K9.okCt 0 c) : K9.okCt 2 x := by
  obtain ⟨l, rfl, hl, hy⟩ := h
  refine hc.withCr (by decide) (fun y hy2 => ?_) (by omega)
  obtain ⟨j, hj⟩ := List.mem_iff_getElem?.mp hy2
  exact bare_f (hy j y hj).1
theorem len0 {A : Type} {l : List A} (h : l.length = 0) : l = [] := List.length_eq_zero_iff.mp h
theorem len1 {A : Type} {l : List A} (h : l.length = 1) : ∃ a, l = [a] := List.length_eq_one_iff.mp h
theorem len2 {A : Type} {l : List A} (h : l.length = 2) : ∃ a b, l = [a, b] := by
  cases l with
  | nil => simp at h
  | cons a r =>
    rw [List.length_cons] at h
    obtain ⟨b, e⟩ := len1 (l := r) (by omega)
    exact ⟨a, b, by rw [e]⟩
theorem at1 {A : Type} {a z : A} {j : Nat} (h : [a][j]? = some z) : j = 0 ∧ z = a := by
  cases j with
  | zero => exact ⟨rfl, (Option.some.inj h).symm⟩
  | succ j => simp at h
theorem at2 {A : Type} {a b z : A} {j : Nat} (h : [a, b][j]? = some z) : (j = 0 ∧ z = a) ∨ (j = 1 ∧ z = b) := by
  cases j with
  | zero => exact .inl ⟨rfl, (Option.some.inj h).symm⟩
  | succ j =>
    cases j with
    | zero => exact .inr ⟨rfl, (Option.some.inj h).symm⟩
    | succ j => simp at h
theorem ltab : ltS "a" "b" = true ∧ ltS "b" "a" = false := by decide
theorem Bg.add {c x : Ct} {i : Nat} {y : Cr} (h : Bg c i x) (hi : i < 2) (hy : okCr y) (hn : y.name = nmK i) : ∃ x', addC x y = some x' ∧ Bg c (i + 1) x' := by
  obtain ⟨l, rfl, hl, hk⟩ := h
  have hb : bare { y with burns := [], sights := [] } := ⟨hy.bare, rfl, rfl⟩
  have e : ∀ l' : List Cr, l'.length < 20 → addC (withC c l') y = some (withC c (putN Cr.name l' { y with burns := [], sights := [] })) := fun l' hl' => by
    refine if_neg ?_
    have e2 : decide (20 ≤ ((withC c l').crafts.length : Int)) = false := decide_eq_false (by show ¬ 20 ≤ (l'.length : Int); omega)
    rw [e2, Bool.and_false]
    exact Bool.false_ne_true
  obtain rfl | rfl : i = 0 ∨ i = 1 := by omega
  · have el := len0 hl
    subst el
    have ep : putN Cr.name ([] : List Cr) { y with burns := [], sights := [] } = [{ y with burns := [], sights := [] }] := rfl
    refine ⟨_, e [] (Nat.le_of_ble_eq_true rfl), [{ y with burns := [], sights := [] }], by rw [ep], rfl, fun j z hz => ?_⟩
    obtain ⟨rfl, rfl⟩ := at1 hz
    exact ⟨hb, hn⟩
  · obtain ⟨z0, el⟩ := len1 hl
    subst el
    obtain ⟨h0, n0⟩ := hk 0 z0 rfl
    have n0 : z0.name = "a" := n0
    have hn : y.name = "b" := hn
    have ep : putN Cr.name [z0] { y with burns := [], sights := [] } = [z0, { y with burns := [], sights := [] }] := by
      unfold putN
      have e1 : ltS z0.name y.name = true := by rw [n0, hn]; exact ltab.1
      have e2 : ltS y.name z0.name = false := by rw [n0, hn]; exact ltab.2
      have f1 : [z0].filter (fun r => ltS r.name y.name) = [z0] := by rw [List.filter_cons_of_pos (p := fun r : Cr => ltS r.name y.name) e1]; rfl
      have f2 : [z0].filter (fun r => ltS y.name r.name) = [] := by rw [List.filter_cons_of_neg (p := fun r : Cr => ltS y.name r.name) (by show ¬ ltS y.name z0.name = true; rw [e2]; exact Bool.false_ne_true)]; rfl
      show [z0].filter (fun r => ltS r.name y.name) ++ ([{ y with burns := [], sights := [] }] ++ [z0].filter (fun r => ltS y.name r.name)) = _
      rw [f1, f2]
      rfl
    refine ⟨_, e [z0] (Nat.le_of_ble_eq_true rfl), [z0, { y with burns := [], sights := [] }], by rw [ep], rfl, fun j z hz => ?_⟩
    rcases at2 hz with ⟨rfl, rfl⟩ | ⟨rfl, rfl⟩
    · exact ⟨h0, n0⟩
    · exact ⟨hb, hn⟩
theorem Bg.two {c x : Ct} (h : Bg c 2 x) : (∀ y ∈ x.crafts, bare y) ∧ (∀ y z, y ∈ x.crafts → z ∈ x.crafts → y.name = z.name → y = z) ∧ x.sites = c.sites := by
  obtain ⟨l, rfl, hl, hk⟩ := h
  obtain ⟨a, b, el⟩ := len2 hl
  subst el
  · obtain ⟨h0, n0⟩ := hk 0 a rfl
    obtain ⟨h1, n1⟩ := hk 1 b rfl
    have n0 : a.name = "a" := n0
    have n1 : b.name = "b" := n1
    have hab : ¬ ("a" : Str) = "b" := by decide
    refine ⟨fun y hy => ?_, fun y z hy hz e => ?_, rfl⟩
    · have hy : y = a ∨ y = b := by simpa [withC] using hy
      rcases hy with rfl | rfl <;> assumption
    · have hy : y = a ∨ y = b := by simpa [withC] using hy
      have hz : z = a ∨ z = b := by simpa [withC] using hz
      rcases hy with rfl | rfl <;> rcases hz with rfl | rfl
      · rfl
      · rw [n0, n1] at e
        exact absurd e hab
      · rw [n0, n1] at e
        exact absurd e.symm hab
      · rfl
/-- what the dict holds after some crafts -/
def tblOf (K : PySem.W.Frag) (c0 : Ct) (xs : List Cr) (n : Str) : Option Dn := (xs.reverse.find? fun y => decide (y.name = n)).map fun y => PPs K (coOf ⟨c0, y, 8⟩)
theorem tbl_next {c0 : Ct} {xs : List Cr} {i : Nat} {y : Cr} (h : xs[i]? = some y) : tblOf K c0 (xs.take (i + 1)) = fun n => if n = y.name then some (PPs K (coOf ⟨c0, y, 8⟩)) else tblOf K c0 (xs.take i) n := by
  funext n
  unfold tblOf
  rw [take_at h, List.reverse_append]
  show ((y :: (xs.take i).reverse).find? fun y => decide (y.name = n)).map _ = _
  by_cases e : n = y.name
  · rw [if_pos e, List.find?_cons_of_pos (p := fun y : Cr => decide (y.name = n)) (decide_eq_true e.symm)]
    rfl
  · rw [if_neg e, List.find?_cons_of_neg (p := fun y : Cr => decide (y.name = n)) (by show ¬ decide (y.name = n) = true; rw [decide_eq_false fun z => e z.symm]; exact Bool.false_ne_true)]
theorem tbl_get {c0 : Ct} {xs : List Cr} {y : Cr} (hy : y ∈ xs) (hd : ∀ a b, a ∈ xs → b ∈ xs → a.name = b.name → a = b) : tblOf K c0 xs y.name = some (PPs K (coOf ⟨c0, y, 8⟩)) := by
  unfold tblOf
  cases q : xs.reverse.find? fun z => decide (z.name = y.name) with
  | none =>
    have := List.find?_eq_none.mp q y (List.mem_reverse.mpr hy)
    simp at this
  | some z =>
    have h1 := of_decide_eq_true (List.find?_some (p := fun z : Cr => decide (z.name = y.name)) q)
    have h2 := List.mem_reverse.mp (List.mem_of_find?_eq_some q)
    have e := hd z y h2 hy h1
    subst e
    rfl
end
end K9
set_option Elab.async false
set_option linter.all false
set_option maxRecDepth 100000
set_option maxHeartbeats 4000000
/-! K9Dg: the law. -/
namespace K9
open PySem PySem.Spec PyProof.Rows L2
structure LS where
  b : Bk
  named : List Str
/-- the main loop's invariant, ahead of the i-th turn -/
structure LR (c0 : Ct) (i : Nat) (x : LS) : Prop where
  ok : ∀ c ∈ x.b.ear ++ [x.b.now], okCt (2 + i) c
  hd : (x.b.ear ++ [x.b.now]).head? = some c0
  len : x.b.ear.length ≤ i
  nl : x.named.length ≤ 300 * i
  keep : KeepI c0 x.b.now x.named
abbrev PTo (K : PySem.W.Frag) (p : Ct × Ct) : Dn := PTold K p.1 p.2
abbrev LY := Bk × Option (Ct × Ct)
/-- what a turn makes of the book -/
def Turned (i : Nat) (b : Bk) (y : LY) : Prop := (y.2 = none ∧ y.1.now = b.now ∧ y.1.ear = b.ear) ∨ (y.2 = some (b.now, y.1.now) ∧ (b.ear = y.1.ear ++ [y.1.now] ∨ (y.1.ear = b.ear ++ [b.now] ∧ okCt (2 + i + 1) y.1.now)))
def namedOf (named : List Str) : Option (Ct × Ct) → List Str
  | none => named
  | some p => named ++ touchedN p.1 p.2 ++ goneC p.1 p.2
theorem LR.next {c0 : Ct} {i : Nat} {x : LS} {y : LY} (h : LR c0 i x) (hi : i ≤ 20) (t : Turned i x.b y) : LR c0 (i + 1) ⟨y.1, namedOf x.named y.2⟩ := by
  obtain ⟨b, named⟩ := x
  obtain ⟨b', o⟩ := y
  have h1 := h.ok
  have h2 := h.hd
  have h3 : b.ear.length ≤ i := h.len
  have h4 : named.length ≤ 300 * i := h.nl
  have h5 := h.keep
  rcases t with ⟨e1, e2, e3⟩ | ⟨e1, t⟩
  · have e1 : o = none := e1
    have e2 : b'.now = b.now := e2
    have e3 : b'.ear = b.ear := e3
    subst e1
    exact ⟨fun c hc => (h1 c (by rw [e2, e3] at hc; exact hc)).up (by omega), by show (b'.ear ++ [b'.now]).head? = some c0; rw [e2, e3]; exact h2, by show b'.ear.length ≤ i + 1; have e4 : b'.ear.length = b.ear.length := congrArg List.length e3; omega, by show named.length ≤ 300 * (i + 1); omega, by show KeepI c0 b'.now named; rw [e2]; exact h5⟩
  · have e1 : o = some (b.now, b'.now) := e1
    subst e1
    have okn : okCt (2 + i) b.now := h1 b.now (by simp)
    have okb : okCt (2 + i + 1) b'.now ∧ (∀ c ∈ b'.ear ++ [b'.now], okCt (2 + (i + 1)) c) ∧ (b'.ear ++ [b'.now]).head? = some c0 ∧ b'.ear.length ≤ i + 1 := by
      rcases t with t | ⟨t, u⟩
      · have t : b.ear = b'.ear ++ [b'.now] := t
        refine ⟨(h1 b'.now (by rw [t]; simp)).up (by omega), fun c hc => (h1 c (by rw [t]; exact List.mem_append_left _ hc)).up (by omega), ?_, ?_⟩
        · rw [t] at h2
          cases q : b'.ear with
          | nil =>
            rw [q] at h2
            exact h2
          | cons a r =>
            rw [q] at h2
            exact h2
        · rw [t, List.length_append, List.length_singleton] at h3
          omega
      · have t : b'.ear = b.ear ++ [b.now] := t
        have u : okCt (2 + i + 1) b'.now := u
        refine ⟨u, fun c hc => ?_, ?_, ?_⟩
        · rcases List.mem_append.mp hc with hc | hc
          · rw [t] at hc
            exact (h1 c hc).up (by omega)
          · have e : c = b'.now := by simpa using hc
            rw [e]
            exact u.up (by omega)
        · rw [t]
          cases q : b.ear with
          | nil =>
            rw [q] at h2
            exact h2
          | cons a r =>
            rw [q] at h2
            exact h2
        · rw [t, List.length_append, List.length_singleton]
          omega
    obtain ⟨k1, k2, k3, k4⟩ := okb
    refine ⟨k2, k3, k4, ?_, keep_step h5⟩
    show (named ++ touchedN b.now b'.now ++ goneC b.now b'.now).length ≤ 300 * (i + 1)
    have l1 := touchedN_len b.now b'.now
    have l2 := goneC_len b.now b'.now
    have l3 := okn.lc
    have l4 := k1.lc
    rw [List.length_append, List.length_append]
    omega
theorem edit_word {K : PySem.W.Frag} (e : Ed) : ∃ (x : Str) (r : List Dn), e.ds K = PS x :: r ∧ (!decide (V.str x = V.str "set body")) = true := by
  cases e <;> exact ⟨_, _, rfl, by decide⟩
theorem r_deepne {K : PySem.W.Frag} {a b : Dn} {p q : PyData} (hp : DpG K a p) (hq : DpG K b q) (sp : SeqAt.shaped p = true) (sq : SeqAt.shaped q = true) : R2G (rNeD K) a b (PB (!PyData.eqv p q)) := fun x y H0 H sm hx hy Q k => ⟨p, q, hp.up sm hx, hq.up sm hy, sp, sq, k _ H0 H (.refl sm) rfl⟩
structure FR (c0 : Ct) (n j : Nat) (y : Bk) : Prop where
  ok : ∀ c ∈ y.ear ++ [y.now], okCt 100 c
  hd : (y.ear ++ [y.now]).head? = some c0
  len : y.ear.length + j = n
section
variable {P : Program} {w : World} {K : PySem.W.Frag} {mg : Str → Option Value} {base : Heap} {G : Cn} {ta tb tc td te : TE} {E : XK}
abbrev lG (K : PySem.W.Frag) (ns : List Int) (c0 : Ct) (f : Str → Option Dn) (p : Addr) (left : Int) (named : List Str) (told : Option Dn) : Cn :=
  [some (PSc K ns), none, none, none, none, none, some (PCt K c0), none, some (PDi f), none, some (PV (.ref p)), some (PI left), some (PWs named), none, told, none, none, none]
abbrev lG7 (K : PySem.W.Frag) (ns : List Int) (c0 : Ct) (f : Str → Option Dn) (p : Addr) (left : Int) (named : List Str) (told row k edit : Option Dn) : Cn :=
  [some (PSc K ns), none, none, none, none, none, some (PCt K c0), k, some (PDi f), none, some (PV (.ref p)), some (PI left), some (PWs named), row, told, edit, none, none]
theorem fn_F {A : Type} {args : A → List Dn} {pre : A → Prop} {res : A → Dn} {x : Str} {params : Arguments} {body : List Stmt} {scope : Scope} {f : Addr} {fd : FuncData} {N ps : List Str} {k : Nat}
    (F : FunD K x x params body scope [] [] f fd) (S : FnScope N ps scope) (hl : ∀ a, (args a).length = ps.length) (G0 : A → Cn) (hG : ∀ a, (args a).map some ++ List.replicate (N.length - ps.length) none = G0 a)
    (hb : ∀ (cdv : Value) (A' : Around) (outer : List Env) (s : Shared) (H : Hp) (E : XK), Room k (A'.deeper (envOfC x scope s.heap.objs.size f cdv)) →
      ∃ t, PSs (cxOf CX0 P w K mg base N x scope f cdv A' outer s H E).nox body t ∧
        ∀ (a : A), pre a → ∀ (B0 : Hp) (z : L2.St) (D : Ends), OkS B0 H (G0 a) none z H → (∀ v H0' H', Grow B0 H H0' H' → (res a).holds H0' v → D.rt v H') → (∀ z' H0' H', Grow B0 H H0' H' → (res a).holds H0' .non → D.nx z' H') → t D z H) :
    FnOk P w K mg base CX0 (k + 1) f fd ps (spF args pre res) := by
  refine F.ok S (fun vs H Q E h => ?_) (fun cdv A' outer s H vs Q E hr h => ?_)
  · obtain ⟨H0, a, sm, hp, hv, _⟩ := h
    rw [← hv.len]
    exact hl a
  · obtain ⟨t, ht, q⟩ := hb cdv A' outer s H E hr
    obtain ⟨H0, a, sm, hp, hv, kk⟩ := h
    refine ⟨t, PSs.nox ht, q a hp H0 _ _ ?_ (fun v H0' H' gr hr => kk v H0' H' gr hr) (fun z' H0' H' gr hr => kk .non H0' H' gr hr)⟩
    have sl := sl_start (N := N) (ps := ps) hv (by rw [← hv.len]; exact hl a)
    rw [hG a] at sl
    exact .start sm sl
theorem d_law (T : Tx w K mg) (N1 : XNP P w K mg base "NoSuchCraft") (N2 : XNP P w K mg base "NoSuchSite") : FnOk P w K mg base CX0 10 (He.ga K "law") (fdf K at_law) ["_law_script"] (spF (fun ns : List Int => [PSc K ns]) (fun ns => ns.length ≤ 63) fun _ => PB true) := by
  have G_law_world := d_law_world (P := P) (base := base) T
  have G_law_row := d_law_row (P := P) (base := base) T
  have G_law_data := d_law_data (P := P) (base := base) T
  have G_law_made := d_law_made (P := P) (base := base) T
  have G_law_drawn_edit := d_law_drawn_edit (P := P) (base := base) T
  have G_law_pieces := d_law_pieces (P := P) (base := base) T
  have G_Contents3 := d_Contents3 (P := P) (base := base) T
  have G_Body := d_Body (P := P) (base := base) T
  have G_Catalogue := d_Catalogue (P := P) (base := base) T
  have G_saved_text := d_saved_text (P := P) (base := base) T
  have G_apply_edit := d_apply_edit T N1 N2
  have G_edit := d_edit T N1 N2
  have G_undo := d_undo (P := P) (base := base) T
  refine fn_F T.F_law sc_law (fun _ => rfl) (fun a => [some (PSc K a), none, none, none, none, none, none, none, none, none, none, none, none, none, none, none, none, none]) (fun _ => rfl) fun cdv A' outer s H E hr => ⟨_, (pss_cons (ps_asg (pe_d G_law_world hr (pa_cons (pv 0) pa_nil)) (pg_tup rfl (pgs_cons (pg_name (i := 1) sc_law.nd rfl (by first | exact Or.inl rfl | exact Or.inr rfl)) (pgs_cons (pg_name (i := 2) sc_law.nd rfl (by first | exact Or.inl rfl | exact Or.inr rfl)) (pgs_cons (pg_name (i := 3) sc_law.nd rfl (by first | exact Or.inl rfl | exact Or.inr rfl)) (pgs_cons (pg_name (i := 4) sc_law.nd rfl (by first | exact Or.inl rfl | exact Or.inr rfl)) (pgs_cons (pg_name (i := 5) sc_law.nd rfl (by first | exact Or.inl rfl | exact Or.inr rfl)) pgs_nil)))))))
    (pss_cons (ps_set (i := 6) sc_law.nd rfl (by first | exact Or.inl rfl | exact Or.inr rfl) (pe_k G_Contents3 hr (pa_cons (pe_k G_Body hr (pa_cons (pv 1) (pa_cons (pv 2) (pa_cons (pv 3) pa_nil)))) (pa_cons (pv 4) (pa_cons (pe_callB (call_min2 rfl) rfl T.n_min (by decide +kernel) (pa_cons (pv 5) (pa_cons pe_int pa_nil))) pa_nil)))))
    (pss_cons (ps_for PassesOwn.never rfl (pi_range1 rfl T.n_range (pa_cons pe_int pa_nil)) (pg_name (i := 7) sc_law.nd rfl (by first | exact Or.inl rfl | exact Or.inr rfl)) (pss_one (ps_set (i := 6) sc_law.nd rfl (by first | exact Or.inl rfl | exact Or.inr rfl) (pe_dX G_apply_edit hr passL (pa_cons (pv 6) (pa_cons (pe_tup (pa_cons pe_str (pa_cons (pe_d G_law_made hr (pa_cons (pe_d G_law_data hr (pa_cons (pv 0) (pa_cons (pe_op op_add pe_int (pe_op op_mul pe_int (pv 7))) (pa_cons (pe_ix ix_list (pe_lst (pa_cons pe_str (pa_cons pe_str pa_nil))) (pv 7) (fun _ _ => rfl)) pa_nil)))) (pa_cons (pe_lst pa_nil) pa_nil))) pa_nil))) pa_nil))))))
    (pss_cons (ps_set (i := 8) sc_law.nd rfl (by first | exact Or.inl rfl | exact Or.inr rfl) pe_dnewK)
    (pss_cons (ps_for PassesOwn.never rfl (pi_tup (pe_fld (pv 6) rfl)) (pg_name (i := 9) sc_law.nd rfl (by first | exact Or.inl rfl | exact Or.inr rfl)) (pss_one (ps_dput (hu_of hr) (pv 8) (pe_fld (pv 9) rfl) (pe_d G_law_pieces hr (pa_cons (pv 6) (pa_cons (pv 9) pa_nil))) rfl)))
    (pss_cons (ps_set (i := 10) sc_law.nd rfl (by first | exact Or.inl rfl | exact Or.inr rfl) (pe_k G_Catalogue hr (pa_cons (pv 6) pa_nil)))
    (pss_cons (ps_set (i := 11) sc_law.nd rfl (by first | exact Or.inl rfl | exact Or.inr rfl) pe_int)
    (pss_cons (ps_set (i := 12) sc_law.nd rfl (by first | exact Or.inl rfl | exact Or.inr rfl) (pe_lst pa_nil))
    (pss_cons (ps_for PassesOwn.never rfl (pi_range1 rfl T.n_range (pa_cons (pe_callB (call_max2 rfl) rfl T.n_max (by decide +kernel) (pa_cons pe_int (pa_cons (pe_callB (call_min2 rfl) rfl T.n_min (by decide +kernel) (pa_cons pe_int (pa_cons (pe_callB call_len_seq rfl T.n_len PySem.boot_len (pa_cons (pv 0) pa_nil)) pa_nil))) pa_nil))) pa_nil)) (pg_name (i := 7) sc_law.nd rfl (by first | exact Or.inl rfl | exact Or.inr rfl)) (pss_cons (ps_set (i := 13) sc_law.nd rfl (by first | exact Or.inl rfl | exact Or.inr rfl) (pe_d G_law_row hr (pa_cons (pv 0) (pa_cons (pe_op op_add pe_int (pv 7)) pa_nil))))
    (pss_cons (ps_set (i := 14) sc_law.nd rfl (by first | exact Or.inl rfl | exact Or.inr rfl) pe_non)
    (pss_cons (ps_if (pt_cmpR op_eq (pe_op op_mod (pv 13) pe_int) pe_int (nomark _)) (pss_cons (ps_set (i := 14) sc_law.nd rfl (by first | exact Or.inl rfl | exact Or.inr rfl) (pe_methE0 (pv 10) T.cl_Catalogue T.me_undo G_undo hr T.B_Catalogue_undo (fun σ => passAt takes0 σ)))
    (pss_one (ps_set (i := 11) sc_law.nd rfl (by first | exact Or.inl rfl | exact Or.inr rfl) (pe_callB (call_max2 rfl) rfl T.n_max (by decide +kernel) (pa_cons pe_int (pa_cons (pe_op op_sub (pv 11) pe_int) pa_nil)))))) (pss_cons (ps_set (i := 15) sc_law.nd rfl (by first | exact Or.inl rfl | exact Or.inr rfl) (pe_d G_law_drawn_edit hr (pa_cons (pv 0) (pa_cons (pe_op op_add pe_int (pv 7)) (pa_cons (pe_lst (pa_cons pe_str (pa_cons pe_str pa_nil))) pa_nil)))))
    (pss_one (ps_if (pt_cmpR op_ne (pe_ix ix_tup (pv 15) pe_int (fun _ _ => rfl)) pe_str (nomark _)) (pss_one (ps_try_only rfl rfl ⟨rfl, by decide, .inl T.g_OrreryError⟩ takes0 (fun W pn xe tk hp => (pss_cons (ps_set (i := 14) sc_law.nd rfl (by first | exact Or.inl rfl | exact Or.inr rfl) (pe_methE (pv 10) T.cl_Catalogue T.me_edit G_edit hr T.B_Catalogue_edit (fun σ => passAt tk σ) (pa_cons (pv 15) pa_nil)))
    (pss_one (ps_aug (i := 11) sc_law.nd rfl (by first | exact Or.inl rfl | exact Or.inr rfl) pe_int ip_add)))) (fun a oe cls d pn hz hd => (pss_one (ps_set (i := 14) sc_law.nd rfl (by first | exact Or.inl rfl | exact Or.inr rfl) pe_non))))) pss_nil))))
    (pss_cons (ps_if (pt_cmpR op_notN (pv 14) pe_non (nomark _)) (pss_one (ps_set (i := 12) sc_law.nd rfl (by first | exact Or.inl rfl | exact Or.inr rfl) (pe_op op_cat (pe_op op_cat (pv 12) (pe_lc (own := [("_law_name", 16), ("_law_tick", 17)]) (g := (gTup K 2 (gCons (gName 16) (gCons (gName 17) gNil)))) rfl sc_law.nd (pi_list (pe_ix ix_tup (pv 14) pe_int (fun _ _ => rfl))) (blkOk_by (N := N_law) (sc := defScope S_law) (by decide +kernel)) (fun _ _ _ _ _ => (pg_tup rfl (pgs_cons (pg_name (i := 16) sc_law.nd rfl (Or.inl rfl)) (pgs_cons (pg_name (i := 17) sc_law.nd rfl (Or.inl rfl)) pgs_nil)))) (fun _ _ _ _ _ => pts_nil) (fun _ _ _ _ _ => (pv 16)))) (pe_ix ix_tup (pv 14) pe_int (fun _ _ => rfl))))) pss_nil)
    (pss_one (ps_for PassesOwn.never rfl (pi_tup (pe_fld (pe_fld (pv 10) rfl) rfl)) (pg_name (i := 9) sc_law.nd rfl (by first | exact Or.inl rfl | exact Or.inr rfl)) (pss_one (ps_if (PW.pt (pw_and (pt_cmpR op_notIn_seq (pe_fld (pv 9) rfl) (pv 12) rfl) (pw_and1 (pt_cmpR (op_neD hr.units) (pe_d G_law_pieces hr (pa_cons (pe_fld (pv 10) rfl) (pa_cons (pv 9) pa_nil))) (pe_dget (hu_of hr) (pv 8) (pe_fld (pv 9) rfl) (fun _ _ => rfl)) (nomark _))))) (pss_one (ps_ret pe_bl)) pss_nil)))))))))
    (pss_cons (ps_for PassesOwn.never rfl (pi_range1 rfl T.n_range (pa_cons (pv 11) pa_nil)) (pg_name (i := 7) sc_law.nd rfl (by first | exact Or.inl rfl | exact Or.inr rfl)) (pss_one (ps_if (pt_cmpR op_isN (pe_methE0 (pv 10) T.cl_Catalogue T.me_undo G_undo hr T.B_Catalogue_undo (fun σ => passAt takes0 σ)) pe_non (nomark _)) (pss_one (ps_ret pe_bl)) pss_nil)))
    (pss_one (ps_ret (pe_and (pe_cmpR op_isN (pe_methE0 (pv 10) T.cl_Catalogue T.me_undo G_undo hr T.B_Catalogue_undo (fun σ => passAt takes0 σ)) pe_non (nomark _)) (pe_one (pe_cmpR op_eq (pe_d G_saved_text hr (pa_cons (pe_fld (pv 10) rfl) pa_nil)) (pe_d G_saved_text hr (pa_cons (pv 6) pa_nil)) (nomark _)))))))))))))))), ?_⟩
  intro ns pre B0 z D ok kr kn
  have pre : ns.length ≤ 63 := pre
  refine sq_asgTE (fun a : WA => [some (PSc K ns), some (PI a.mu), some (PI a.obl), some (P3 K a.turn), some (PI a.st), some (PI a.fi), none, none, none, none, none, none, none, none, none, none, none, none]) ok (g_law_world (g_var rfl) (by omega)) (fun a => tg_tup (tgs_cons tg_name (tgs_cons tg_name (tgs_cons tg_name (tgs_cons tg_name (tgs_cons tg_name tgs_nil)))))) fun a ha z1 H1 ok1 => ?_
  obtain ⟨mu, obl, turn, st, fi⟩ := a
  obtain ⟨a1, a2, a3, a4, a5⟩ := ha
  have a1 : 1 ≤ mu ∧ mu ≤ 1000000000 := a1
  have a2 : 0 ≤ obl ∧ obl ≤ 1000000000000 := a2
  have a3 : okTu turn := a3
  have a4 : 1 ≤ st ∧ st ≤ 4 := a4
  have a5 : 0 ≤ fi ∧ fi ≤ 2 := a5
  have hbo : okBdy ⟨mu, obl, turn⟩ := ⟨by show 1 ≤ mu ∧ mu ≤ 10 ^ 30; omega, by show 0 ≤ obl ∧ obl ≤ 10 ^ 30; omega, a3.n, a3.r, a3.x⟩
  have hfi : 0 ≤ mn fi 1 ∧ mn fi 1 ≤ 6 := by unfold mn; split <;> omega
  obtain ⟨cb, hcb⟩ : ∃ cb : Ct, cb = ⟨⟨mu, obl, turn⟩, st, mn fi 1, [], []⟩ := ⟨_, rfl⟩
  have okb0 : okCt 0 cb := by
    rw [hcb]
    exact ⟨hbo, ⟨by show 1 ≤ st ∧ st ≤ 1000; omega, hfi⟩, fun _ h => by simp at h, fun _ h => by simp at h, Nat.le_refl _, Nat.le_refl _⟩
  refine sq_asg ok1 (EvG.is (d' := PCt K cb) (g_Contents3 (c := ⟨⟨mu, obl, turn⟩, st, mn fi 1, [], []⟩) T (g_Body (b := ⟨mu, obl, turn⟩) (g_var rfl) (g_var rfl) (g_var rfl) hbo) (g_var rfl) (g_cb (a_cons (g_var rfl) (a_cons g_c a_nil)) r_min2) ⟨by show 1 ≤ st ∧ st ≤ 1000; omega, hfi⟩ rfl rfl) (by rw [hcb])) fun z2 H2 ok2 => ?_
  have ok2 : OkS B0 H [some (PSc K ns), none, none, none, none, none, some (PCt K cb), none, none, none, none, none, none, none, none, none, none, none] none z2 H2 := ok2.forget [1, 2, 3, 4, 5]
  have bg0 : Bg cb 0 cb := ⟨[], by rw [hcb]; rfl, rfl, fun j y h => by simp at h⟩
  refine sq (st_forRx 2 (fun i (x : Ct) => Bg cb i x) (fun _ x => [some (PSc K ns), none, none, none, none, none, some (PCt K x), none, none, none, none, none, none, none, none, none, none, none]) (fun i x => [some (PSc K ns), none, none, none, none, none, some (PCt K x), some (PI (0 + (i : Int))), none, none, none, none, none, none, none, none, none, none]) (fun _ _ => none) cb bg0 ok2 (a_cons g_c a_nil) rfl ⟨by decide, by decide⟩ (fun i x hi hx => tg_name) (fun C0 C up i x hi hx s' H' ok3 N hN => ?_) (fun c0 s' H' hx ok3 => ?_))
  · have hnm : ((["a", "b"] : List Str).map fun x : Str => PS x)[i]? = some (PS (nmK i)) := by
      obtain rfl | rfl : i = 0 ∨ i = 1 := by omega
      · rfl
      · rfl
    have hd : EvG (tTup (tCons (tC (.str "add craft")) (tCons (tCall (sp_law_made K) [] E0 (tCons (tCall (sp_law_data K) [] E0 (tCons (tVar 0) (tCons (tOp (rI0 fun i j => .int (i + j)) (tC (.int 2)) (tOp (rI CMul fun i j => .int (i * j)) (tC (.int 4)) (tVar 7))) (tCons (tOp (rIxL K) (tLst (tCons (tC (.str "a")) (tCons (tC (.str "b")) tNil))) (tVar 7)) tNil)))) (tCons (tLst tNil) tNil))) tNil))) [some (PSc K ns), none, none, none, none, none, some (PCt K x), some (PI (0 + (i : Int))), none, none, none, none, none, none, none, none, none, none] (PT K [PS "add craft", PEx (okDat (nmK i)) fun d => PCr K d.1]) :=
      g_tup (a_cons g_c (a_cons (g_law_madeE (g_law_data (2 + 4 * i) (g_var rfl) (g_I0 g_c (g_I g_c (g_var rfl) (cm1 (by decide)))) (g_ixL i (EvG.is (d' := PL ((["a", "b"] : List Str).map fun x : Str => PS x)) (g_lst (a_cons g_c (a_cons g_c a_nil)) (Nat.le_of_ble_eq_true rfl)) rfl) (g_var rfl) (by omega) hnm) (by omega) ⟨⟨by omega, by omega⟩, nmK_ok i⟩) (g_lst a_nil)) a_nil)) (Nat.le_of_ble_eq_true rfl)
    refine st_addC ok3 (g_var rfl) hd (fun d hd => ⟨(hx.okCt (by omega) okb0).up (by decide), hd.c⟩) (fun d hd => ?_) fun d hd ct' hc s4 H4 ok4 => ?_
    · obtain ⟨x', e, _⟩ := hx.add hi hd.c hd.n
      rw [e]
      exact fun z => nomatch z
    · obtain ⟨x', e, hb⟩ := hx.add hi hd.c hd.n
      rw [e] at hc
      cases hc
      exact hN _ _ _ hb (ok4.forget [7])
  obtain ⟨bare0, dist0, sites0⟩ := hx.two
  have okc0 : okCt 2 c0 := hx.okCt (Nat.le_refl _) okb0
  have sites0 : c0.sites = [] := by rw [sites0, hcb]
  refine sq_newD ok3 fun l z4 H4 ok4 => ?_
  have hlc := okc0.lc
  have e0 : tblOf K c0 (c0.crafts.take 0) = fun _ => none := rfl
  refine sq (st_forTm c0.crafts (PCr K) (fun _ (_ : Unit) => True) (fun _ _ => [some (PSc K ns), none, none, none, none, none, some (PCt K c0), none, some (PV (.ref l)), none, none, none, none, none, none, none, none, none]) (fun y _ _ => [some (PSc K ns), none, none, none, none, none, some (PCt K c0), none, some (PV (.ref l)), some (PCr K y), none, none, none, none, none, none, none, none]) (fun i _ => some (owD l i (tblOf K c0 (c0.crafts.take i)))) () trivial ok4 (g_fld (g_var rfl) T.cl_Contents T.na_Contents_crafts rfl) (fun y i x => tg_name) (fun C0 C up i y x hy r s' H' ok5 N hN => ?_) (fun x s' H' r ok5 => ?_))
  · have hlt := at_lt hy
    refine st_dput ok5 (g_law_pieces (g_var rfl) (g_var rfl) (okA_of okc0 (List.mem_of_getElem? hy))) (g_var rfl) (g_fld (g_var rfl) T.cl_Craft T.na_Craft_name rfl) (by omega) fun H6 ok6 => hN _ _ () trivial ?_
    rw [tbl_next hy]
    exact ok6.forget [9]
  rw [List.take_length] at ok5
  have ok6 := OkS.freezeD (i := 8) ok5 rfl
  obtain ⟨f, hf⟩ : ∃ f, tblOf K c0 c0.crafts = f := ⟨_, rfl⟩
  have hfg : ∀ y ∈ c0.crafts, f y.name = some (PPs K (coOf ⟨c0, y, 8⟩)) := fun y hy => by
    rw [← hf]
    exact tbl_get hy dist0
  rw [hf] at ok6
  refine sq_mkOwn (args := fun c : Ct => [PCt K c]) c0 trivial ok6 (a_cons (g_var rfl) a_nil) fun p dx z7 H7 ok7 => ?_
  refine sq_asg ok7 g_c fun z8 H8 ok8 => ?_
  refine sq_asg ok8 (g_lst a_nil) fun z9 H9 ok9 => ?_
  have ok9 : OkS B0 H (lG K ns c0 f p (([] : List Ct).length : Int) [] none) (some (owI p (He.ga K "Catalogue") dx (bkF K ⟨c0, 0, []⟩))) z9 H9 := ok9
  have hm : mx 5 (mn 10 (ns.length : Int)) ≤ 10 ∧ 5 ≤ mx 5 (mn 10 (ns.length : Int)) := ⟨mx_le (by decide) (mn_l _ _), mx_l _ _⟩
  have lr0 : LR c0 0 ⟨⟨c0, 0, []⟩, []⟩ := ⟨fun c hc => by
    have e : c = c0 := by simpa using hc
    rw [e]
    exact okc0, rfl, Nat.le_refl _, Nat.le_refl _, keep_self c0 []⟩
  refine sq (st_forRx (n := mx 5 (mn 10 (ns.length : Int))) (mx 5 (mn 10 (ns.length : Int))).toNat (LR c0) (fun _ x => lG K ns c0 f p (x.b.ear.length : Int) x.named none) (fun i x => lG7 K ns c0 f p (x.b.ear.length : Int) x.named none none (some (PI (0 + (i : Int)))) none) (fun _ x => some (owI p (He.ga K "Catalogue") dx (bkF K x.b))) ⟨⟨c0, 0, []⟩, []⟩ lr0 ok9
    (a_cons (g_cb (a_cons g_c (a_cons (g_cb (a_cons g_c (a_cons (g_cb (a_cons (g_var rfl) a_nil) r_lenSc) a_nil)) r_min2) a_nil)) r_max2) a_nil) rfl ⟨by omega, by omega⟩ (fun i x hi hx => tg_name) (fun C0 C up i x hi lr s' H' oka N hN => ?_) (fun x s' H' lr oka => ?_))
  · obtain ⟨⟨now, ver, ear⟩, named⟩ := x
    have hi10 : i < 10 := by omega
    have okn : okCt (2 + i) now := lr.ok now (by simp)
    have hlen : ear.length ≤ i := lr.len
    refine sq_asgE oka (by show 13 < 18; decide) (g_law_row (12 + i) (g_var rfl) (g_I0 g_c (g_var rfl)) (by omega) ⟨by show ns.length ≤ 1000; omega, by show 12 + i ≤ 1000; omega⟩) fun r hr0 z1 H1 ok1 => ?_
    refine sq_asg ok1 g_c fun z2 H2 ok2 => ?_
    have ok2 : OkS C0 C (lG7 K ns c0 f p (ear.length : Int) named (some PN) (some (PI r)) (some (PI (0 + (i : Int)))) none) (some (owI p (He.ga K "Catalogue") dx (bkF K ⟨now, ver, ear⟩))) z2 H2 := ok2
    refine sq_ifME (Turned i ⟨now, ver, ear⟩) (fun y => lG K ns c0 f p (y.1.ear.length : Int) named (some (popt y.2 (PTo K)))) (fun y => some (owI p (He.ga K "Catalogue") dx (bkF K y.1))) ok2 (t_test (g_op (g_I (g_var rfl) g_c (by decide)) g_c (r_eq rfl))) (fun hb H3 ok3 N2 hN2 => ?_) (fun hb H3 ok3 N2 hN2 => ?_) fun y z4 H4 t ok4 => ?_
    · rcases List.eq_nil_or_concat ear with he | ⟨es, c, he⟩
      · subst he
        refine sq_asgM (fs0 := fun a : UnA => bkF K (unB a)) (args := fun _ => []) (pre := unPre) (out := unOut K) ⟨now, ver, [], none⟩ ⟨fun _ => rfl, fun c h => nomatch h⟩ ok3 (g_var rfl) rfl a_nil (fun fs d e z4 H4 ok4 => ?_) (fun e => nomatch e)
        cases e
        refine st_asg ok4 (EvG.is (g_cb (a_cons g_c (a_cons (g_I0 (g_var rfl) g_c) a_nil)) r_max2) (congrArg (fun i => PI i) (show mx 0 ((([] : List Ct).length : Int) - 1) = (([] : List Ct).length : Int) by decide))) fun z5 H5 ok5 => ?_
        exact hN2 (⟨now, ver, []⟩, none) _ _ (.inl ⟨rfl, rfl, rfl⟩) (ok5.forget [7, 13])
      · have he : ear = es ++ [c] := by rw [he]; simp
        subst he
        have okc : okCt (2 + i) c := lr.ok c (by simp)
        refine sq_asgM (fs0 := fun a : UnA => bkF K (unB a)) (args := fun _ => []) (pre := unPre) (out := unOut K) ⟨now, ver, es, some c⟩ ⟨fun h => (nomatch h), fun c' h => by cases h; exact ⟨okn.up (by omega), okc.up (by omega)⟩⟩ ok3 (g_var rfl) rfl a_nil (fun fs d e z4 H4 ok4 => ?_) (fun e => nomatch e)
        cases e
        refine st_asg ok4 (EvG.is (g_cb (a_cons g_c (a_cons (g_I0 (g_var rfl) g_c) a_nil)) r_max2) (congrArg (fun i => PI i) (show mx 0 (((es ++ [c]).length : Int) - 1) = (es.length : Int) by rw [List.length_append, List.length_singleton]; unfold mx; split <;> omega))) fun z5 H5 ok5 => ?_
        exact hN2 (⟨c, ver + 1, es⟩, some (now, c)) _ _ (.inr ⟨rfl, .inl rfl⟩) (ok5.forget [7, 13])
    · refine sq_asgE ok3 (by show 15 < 18; decide) (g_law_drawn_edit (12 + i) (g_var rfl) (g_I0 g_c (g_var rfl)) (EvG.is (d' := PL (namesL.map fun x => PS x)) (g_lst (a_cons g_c (a_cons g_c a_nil)) (Nat.le_of_ble_eq_true rfl)) rfl) (by omega) ⟨by omega, by omega⟩) fun o ho z4 H4 ok4 => ?_
      cases o with
      | none =>
        refine st_if ok4 (t_test (g_op (g_ixT0 (EvG.is (d' := PT K [PS "set body", PAny]) (g_var rfl) rfl)) g_c (r_ne rfl))) (fun h => absurd h (by decide)) fun h H5 ok5 => ?_
        exact hN2 (⟨now, ver, ear⟩, none) _ _ (.inl ⟨rfl, rfl, rfl⟩) (ok5.forget [7, 13, 15])
      | some e =>
        have hed : okEd e := ho e rfl
        obtain ⟨word, rr, e1, e2⟩ := edit_word (K := K) e
        refine st_if (b := true) ok4 (EvT.is (t_test (g_op (g_ixT0 (EvG.is (d' := PT K (PS word :: rr)) (g_var rfl) (congrArg (PT K) e1))) g_c (r_ne rfl))) e2) (fun h H5 ok5 => ?_) fun h => nomatch h
        refine sq_asgM (fs0 := fun a : Bk × Ed => bkF K a.1) (args := fun a : Bk × Ed => [PEd K a.2]) (pre := edPre) (out := edOut K) (⟨now, ver, ear⟩, e) ⟨⟨okn.up (by omega), hed⟩, by show ear.length < 100; omega, fun ct hc => (applyM_ok okn hed hc).up (by omega)⟩ ok5 (g_var rfl) rfl (a_cons (g_var rfl) a_nil) (fun fs d he z6 H6 ok6 => ?_) (fun hn C' d H6 hr6 ok6 => ?_)
        · obtain ⟨ct', hc, h⟩ := Option.map_eq_some_iff.mp he
          cases h
          refine st_augI ok6 rfl g_c fun z7 H7 ok7 => ?_
          have ok8 := ok7.imp (i := 11) (d' := PI (((ear ++ [now]).length : Nat) : Int)) rfl fun H v h => by
            rw [List.length_append, List.length_singleton]
            exact h
          exact hN2 (⟨ct', ver + 1, ear ++ [now]⟩, some (now, ct')) _ _ (.inr ⟨rfl, .inr ⟨rfl, applyM_ok okn hed hc⟩⟩) (ok8.forget [7, 13, 15])
        · refine ⟨true, hr6, fun _ a ha => ?_, fun h => nomatch h⟩
          refine st_asg ok6 g_c fun z7 H7 ok7 => ?_
          exact hN2 (⟨now, ver, ear⟩, none) _ _ (.inl ⟨rfl, rfl, rfl⟩) (ok7.forget [7, 13, 15])
    · have lr2 : LR c0 (i + 1) ⟨y.1, namedOf named y.2⟩ := lr.next (by omega) t
      obtain ⟨b', o⟩ := y
      have okn2 : okCt (2 + (i + 1)) b'.now := lr2.ok b'.now (by simp)
      have hnl : named.length ≤ 300 * i := lr.nl
      refine sq_ifM (lG K ns c0 f p (b'.ear.length : Int) (namedOf named o) (some (popt o (PTo K)))) (some (owI p (He.ga K "Catalogue") dx (bkF K b'))) ok4 (t_test (g_notN (k := o.isNone) (g_var rfl) fun _ _ h => popt_nonG (fun _ h => pt_non h) h)) (fun hb H5 ok5 N2 hN2 => ?_) (fun hb H5 ok5 N2 hN2 => ?_) fun z6 H6 ok6 => ?_
      · cases o with
        | none => cases hb
        | some uv =>
          obtain ⟨u, v⟩ := uv
          have l1 : (touchedN u v).length ≤ 200 ∧ (goneC u v).length ≤ 200 := by
            have h1 := touchedN_len u v
            have h2 := goneC_len u v
            rcases t with ⟨t, _⟩ | ⟨t, _⟩
            · cases t
            · have t : some (u, v) = some (now, b'.now) := t
              cases t
              have h3 := okn.lc
              have h4 := okn2.lc
              omega
          refine st_asg ok5 (EvG.is (d' := PWs (namedOf named (some (u, v)))) (g_op (g_op (g_var rfl) (g_lcL0 (vs := [16, 17]) (touchedN u v) (PTch K) (fun n => PS n) (fun n => [some (PSc K ns), none, none, none, none, none, some (PCt K c0), none, some (PDi f), none, some (PV (.ref p)), some (PI (b'.ear.length : Int)), some (PWs named), none, some (PTold K u v), none, some (PS n), some PTick]) (g_ixT0 (g_var rfl)) (by omega) (fun n _ => tc_tup (tcs_cons tc_name (tcs_cons tc_name tcs_nil))) (fun n _ => g_var rfl)) (r_cat ?_)) (g_ixT1 (g_var rfl)) (r_cat ?_)) ?_) fun z6 H6 ok6 => hN2 _ _ ok6
          · rw [List.length_map, List.length_map]
            omega
          · have l2 : (goneC (u, v).1 (u, v).2).length ≤ 200 := l1.2
            rw [List.length_append, List.length_map, List.length_map, List.length_map]
            omega
          · show _ = PL ((named ++ touchedN u v ++ goneC u v).map fun x => PS x)
            rw [List.map_append, List.map_append]
      · cases o with
        | none => exact hN2 _ _ ok5
        | some uv => cases hb
      · refine st_forTW b'.now.crafts (PCr K) (fun c => [some (PSc K ns), none, none, none, none, none, some (PCt K c0), none, some (PDi f), some (PCr K c), some (PV (.ref p)), some (PI (b'.ear.length : Int)), some (PWs (namedOf named o)), none, some (popt o (PTo K)), none, none, none]) ok6 (w_fld (w_own (g_var rfl) T.cl_Catalogue T.na_Catalogue_contents rfl) T.cl_Contents T.na_Contents_crafts rfl) (fun c => tg_name) (fun C1 C' c hc s7 H7 ok7 N2 hN2 => ?_) fun s7 H7 ok7 => hN _ _ ⟨b', namedOf named o⟩ lr2 (ok7.forget [14])
        have hokA := okA_of okn2 hc
        refine st_ifW ok7 (tw_and (tw_of (t_test (g_notInS (g_fld (g_var rfl) T.cl_Craft T.na_Craft_name rfl) (g_var rfl)))) (fun h => tw_test (w_op (w_callF (args := fun a : Ct × Cr => [PCt K a.1, PCr K a.2]) (res := fun a : Ct × Cr => PPs K (coOf (pcA a))) (b'.now, c) hokA (w_cons (w_own (g_var rfl) T.cl_Catalogue T.na_Catalogue_contents rfl) (w_cons (w_of (g_var rfl)) w_nil)))
          (w_of (g_dget (d := PPs K (coOf ⟨c0, c, 8⟩)) (g_var rfl) (g_fld (g_var rfl) T.cl_Craft T.na_Craft_name rfl) (hfg c (lr2.keep c hc (notIn_of h)).1))) (r_deepne (p := dPs (coOf ⟨b'.now, c, 8⟩)) (q := dPs (coOf ⟨c0, c, 8⟩)) (dpPs _) (dpPs _) (dPs_ok (coOf_end hokA).1) (dPs_ok (coOf_end (okA_of okc0 (lr2.keep c hc (notIn_of h)).1)).1))))) (fun h H8 ok8 => ?_) fun h H8 ok8 => hN2 _ _ (ok8.forget [9])
        obtain ⟨h1, h2⟩ := Bool.and_eq_true_iff.mp h
        obtain ⟨k1, k2⟩ := lr2.keep c hc (notIn_of h1)
        rw [coOf_eq (c := c) k2, eqv_same (coOf_end (okA_of okc0 k1)).1] at h2
        cases h2
  · obtain ⟨⟨now, ver, ear⟩, named⟩ := x
    have hlen : ear.length ≤ (mx 5 (mn 10 (ns.length : Int))).toNat := lr.len
    have fr0 : FR c0 ear.length 0 ⟨now, ver, ear⟩ := ⟨fun c hc => (lr.ok c hc).up (by omega), lr.hd, rfl⟩
    refine sq (st_forRx (n := (ear.length : Int)) ear.length (FR c0 ear.length) (fun _ _ => lG K ns c0 f p (ear.length : Int) named none) (fun j _ => lG7 K ns c0 f p (ear.length : Int) named none none (some (PI (0 + (j : Int)))) none) (fun _ y => some (owI p (He.ga K "Catalogue") dx (bkF K y))) ⟨now, ver, ear⟩ fr0 oka (a_cons (g_var rfl) a_nil) (by omega) ⟨by omega, by omega⟩ (fun i x hi hx => tg_name) (fun C0 C up j y hj fr s' H' okb N hN => ?_) (fun y s' H' fr okb => ?_))
    · obtain ⟨now2, ver2, ear2⟩ := y
      have hl2 : ear2.length + j = ear.length := fr.len
      rcases List.eq_nil_or_concat ear2 with he | ⟨es, c, he⟩
      · subst he
        rw [List.length_nil] at hl2
        omega
      · have he : ear2 = es ++ [c] := by rw [he]; simp
        subst he
        have okn2 : okCt 100 now2 := fr.ok now2 (by simp)
        have okc2 : okCt 100 c := fr.ok c (by simp)
        have fr2 : FR c0 ear.length (j + 1) ⟨c, ver2 + 1, es⟩ := ⟨fun c' hc => fr.ok c' (by exact List.mem_append_left _ hc), by
          have h := fr.hd
          cases q : es with
          | nil =>
            rw [q] at h
            exact h
          | cons a r =>
            rw [q] at h
            exact h, by
          rw [List.length_append, List.length_singleton] at hl2
          show es.length + (j + 1) = ear.length
          omega⟩
        refine OkS.evM (fs0 := fun a : UnA => bkF K (unB a)) (args := fun _ => []) (pre := unPre) (out := unOut K) ⟨now2, ver2, es, some c⟩ ⟨fun h => (nomatch h), fun c' h => by cases h; exact ⟨okn2, okc2⟩⟩ okb (g_var rfl) rfl a_nil (fun fs d e v H0' H2 g sl ow hv => ?_) (fun e => nomatch e)
        cases e
        refine ⟨rfl, false, congrArg V.bl (pt_non hv), iteF ?_⟩
        have okd : OkS C0 C (lG7 K ns c0 f p (ear.length : Int) named none none (some (PI (0 + (j : Int)))) none) (some (owI p (He.ga K "Catalogue") dx (bkF K ⟨c, ver2 + 1, es⟩))) s' H2 := ⟨H0', g, sl, ow⟩
        exact hN _ _ _ fr2 (okd.forget [7])
    · obtain ⟨now2, ver2, ear2⟩ := y
      have hl2 : ear2.length + ear.length = ear.length := fr.len
      have he : ear2 = [] := List.length_eq_zero_iff.mp (by omega)
      subst he
      have hn2 : now2 = c0 := Option.some.inj fr.hd
      subst hn2
      have hsv : svPre now2 := ⟨⟨okc0.b, okc0.sf⟩, bare0, sites0, by omega⟩
      refine OkS.evM (fs0 := fun a : UnA => bkF K (unB a)) (args := fun _ => []) (pre := unPre) (out := unOut K) ⟨now2, ver2, [], none⟩ ⟨fun _ => rfl, fun c h => nomatch h⟩ okb (g_var rfl) rfl a_nil (fun fs d e v H0' H2 g sl ow hv => ?_) (fun e => nomatch e)
      cases e
      refine ⟨rfl, true, congrArg V.bl (pn_non hv), iteT ?_⟩
      have okd : OkS B0 H (lG K ns now2 f p (ear.length : Int) named none) (some (owI p (He.ga K "Catalogue") dx (bkF K ⟨now2, ver2, []⟩))) s' H2 := ⟨H0', g, sl, ow⟩
      refine okd.evW (w_op (w_callF (args := fun c : Ct => [PCt K c]) (res := fun c : Ct => PS (savedT c)) now2 hsv (w_cons (w_own (g_var rfl) T.cl_Catalogue T.na_Catalogue_contents rfl) w_nil)) (w_of (g_saved_text (g_var rfl) hsv)) (r_eq rfl)) fun v H0' H3 g sl ow hv => kr v H0' H3 g ?_
      rw [decide_eq_true rfl] at hv
      exact hv
end
end K9
set_option Elab.async false
set_option linter.all false
set_option maxRecDepth 100000
set_option maxHeartbeats 0
/-! K9Fin: the statement. -/
namespace K9
open PySem PySem.Spec PyProof.Rows L2
theorem fin_facts {w : World} {K : PySem.W.Frag} {h : Heap} {mg : Str → Option Value} (KX : K.In h) (G : h.Ns mainGlobals mg) (c : obsX K = valX w) :
    Tx w K mg ∧ (∀ base : Heap, XNP PG w K mg base "NoSuchCraft") ∧ ∀ base : Heap, XNP PG w K mg base "NoSuchSite" := by
  have c1 : He.SaysT fa.flatten fn.flatten ts w K := congrArg (fun z : AlX => z.1) c
  have c2 : [ixW K "NoSuchCraft", ixW K "NoSuchSite"] = [ixV "NoSuchCraft.__init__" S_NSC, ixV "NoSuchSite.__init__" S_NSS] := congrArg (fun z : AlX => z.2.1) c
  have c3 : (exB K && (xnB PG K "NoSuchCraft" && xnB PG K "NoSuchSite")) = true := congrArg (fun z : AlX => z.2.2) c
  obtain ⟨h1, h2⟩ := He.ba c3
  obtain ⟨h3, h4⟩ := He.ba h2
  have T : Tx w K mg := ⟨⟨h, KX, G⟩, c1, h1⟩
  have e1 : ixW K "NoSuchCraft" = ixV "NoSuchCraft.__init__" S_NSC := (List.cons.inj c2).1
  have e2 : ixW K "NoSuchSite" = ixV "NoSuchSite.__init__" S_NSS := (List.cons.inj (List.cons.inj c2).2).1
  exact ⟨T, fun base => np_NSC T e1 h3, fun base => np_NSS T e2 h4⟩
end K9
open PySem PySem.W PySem.Calls PyProof.Rows
theorem PySem.Challenge.cw_orrery_k90_whole_edits_and_undos_holds : PySem.Challenge.rw_orrery_k90_whole_edits_and_undos.Holds := by
  w_on; o_law
  refine HeadRun.head_imp (r := OpenLaw.row PySem.Challenge.rw_orrery_k90_whole_edits_and_undos) (q := K9.qv) (H := K9.hkX) (ob := K9.obX) (M := 8000) (loose := K9.names) (d := HandSHeadRun.topDef (OpenLaw.row PySem.Challenge.rw_orrery_k90_whole_edits_and_undos).prog 134) (kwd := []) K9.obX_eq
    K9.run (by kernel_rfl) (by kernel_rfl) (by kernel_rfl) (by rfl) (by first | assumption | decide +kernel) (by decide +kernel) ⟨rfl, rfl, rfl, rfl, rfl, by decide +kernel⟩ ?hw ?hc
  case hw => w_witness2
  case hc =>
    refine L2.walk_ofE (l := PySem.Challenge.rw_orrery_k90_whole_edits_and_undos) (n := 63) (k := 10) (x := "_law_script") (CX := L2.CX0) rfl (by decide) (by kernel_rfl) ⟨rfl, by decide, by decide⟩ ?F (fun _ _ _ _ z => z)
    intro w mg fa h Y G hmg0
    obtain ⟨K, KX, c⟩ := Y
    have hmg : mg ("law" : PySem.Str) = some (.ref fa) := by
      have e : (HandSHeadRun.topDef (OpenLaw.row PySem.Challenge.rw_orrery_k90_whole_edits_and_undos).prog 134).name = ("law" : PySem.Str) := by kernel_rfl
      rw [← e]
      exact hmg0
    obtain ⟨T, N1, N2⟩ := K9.fin_facts (w := w) KX G c
    have e := hmg.symm.trans T.g_law
    cases e
    have b := L2.FunD.bindsA (ps := ["_law_script"]) T.F_law fun _ _ _ _ _ _ us hl => match us, hl with | [_], _ => rfl
    exact ⟨K, _, _, KX, fun s v => b s [v] rfl, fun H a ns hl _ hS => ⟨H, ns, L2.Same.refl H, hl, ⟨⟨a, rfl, hS⟩, trivial⟩, fun v H0' H' _ hr => hr⟩, fun base _ _ => K9.d_law T (N1 base) (N2 base)⟩
