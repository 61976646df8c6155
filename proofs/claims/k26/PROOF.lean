import PyProof.Rows.All
import Wide.All
import OpenK.AllK
import Wide.FinOn
import HandS.ForMost
import HandS.ForExc
import HandS.MakeKwOnly
import HandS.Property
import HandS.Defaults
import HandS.Flow
import HandS.Wide
import HandS.WideMore
import HandS.TupLe
import HandS.TupAny
import HandS.IsInst
import HandS.FStr
import HandS.Style
import HandS.Gcd
import KE.GoesEnum
import HandS.WideBits
import HandS.MakeKw
import HandS.TupSets
import HandS.SortInts
import KE.KMathGC
import HandS.Exc
import HandS.ExcOwn
import HandS.ExcIs
import HandS.WordsExc
import KE.KExcSuper
import HandS.ExcInit
import HandS.ExcField
import HandS.TryMany
import KE.DataMinMax
import HandS.SortKw
import HandS.Star
import HandS.Conv
import KE.SortData
import HandS.StrMore
import HandS.Deep
import KE.DataCmp
import PySem.Challenge.RW_neverlate_k26_circuits_of_walks
set_option Elab.async false
set_option linter.all false
set_option autoImplicit false
set_option maxRecDepth 100000
namespace FP
open PySem L2

/-! ## Data without addresses -/
inductive D where
  | non | bl (b : Bool) | int (i : Int) | str (s : Str)
  | tup (xs : List D) | lst (xs : List D) | frz (xs : List D)
  | ins (C : Addr) (fs : List (Str × D))
  | dct (kvs : List (Key × D))
  | exn (a : Addr) (c : Value) (d : Option Addr) (fs : List (Str × D))

section
variable (K : PySem.W.Frag) (B : Hp)
mutual
def Rp : D → V → Prop
  | .non, v => v = .non
  | .bl b, v => v = .bl b
  | .int i, v => v = .int i
  | .str s, v => v = .str s
  | .tup xs, v => ∃ a vs, v = .ref a ∧ SqT K B a vs ∧ RpL xs vs
  | .lst xs, v => ∃ a vs, v = .ref a ∧ B a = some (.lst vs) ∧ RpL xs vs
  | .frz xs, v => ∃ a vs, v = .ref a ∧ SqL K B a vs ∧ RpL xs vs
  | .ins C fs, v => ∃ a dx vs, v = .ref a ∧ B a = some (.ins C dx vs) ∧ RpF fs vs
  | .dct kvs, v => ∃ a vs, v = .ref a ∧ B a = some (.dK vs) ∧ RpK kvs vs
  | .exn a _ d fs, v => v = .ref a ∧ ((d = none ∧ fs = []) ∨ ∃ dd vs, d = some dd ∧ B dd = some (.xd vs) ∧ RpF fs vs)
def RpL : List D → List V → Prop
  | [], vs => vs = []
  | d :: ds, vs => ∃ v r, vs = v :: r ∧ Rp d v ∧ RpL ds r
def RpF : List (Str × D) → List (Str × V) → Prop
  | [], vs => vs = []
  | (n, d) :: ds, vs => ∃ v r, vs = (n, v) :: r ∧ Rp d v ∧ RpF ds r
def RpK : List (Key × D) → List (Key × V) → Prop
  | [], vs => vs = []
  | (n, d) :: ds, vs => ∃ v r, vs = (n, v) :: r ∧ Rp d v ∧ RpK ds r
end
end

/-- extension; in a base, an entry «own r» only says that the cell is one of the tree that hangs at r (its content is not told) -/
def Kp (o : HO) (x : Option HO) : Prop := match o with
  | .own _ => x ≠ none ∧ ∀ vs, x ≠ some (.xd vs)
  | o => x = some o
theorem Kp.of {o : HO} {x : Option HO} (h : x = some o) : Kp o x := by
  subst h
  cases o <;> first | exact rfl | exact ⟨Option.some_ne_none _, fun vs z => by cases z⟩
theorem Kp.ne {o : HO} {x : Option HO} (h : Kp o x) : x ≠ none := by
  intro z
  subst z
  cases o <;> first | exact absurd h (fun z => nomatch z) | exact h.1 rfl
/-- no mark -/
def NG (o : HO) : Prop := ∀ r, o ≠ .own r
theorem Kp.get {o : HO} {x : Option HO} (h : Kp o x) (n : NG o) : x = some o := by
  cases o with
  | own r => exact absurd rfl (n r)
  | _ => exact h
theorem mark_dec (o : HO) : (∃ r, o = .own r) ∨ NG o := by
  cases o with
  | own r => exact .inl ⟨r, rfl⟩
  | _ => exact .inr fun _ h => nomatch h
def Ex (H H' : Hp) : Prop := ∀ a o, H a = some o → Kp o (H' a)
theorem Ex.refl (H : Hp) : Ex H H := fun _ _ h => Kp.of h
theorem Ex.ne {H H' : Hp} (e : Ex H H') {a : Addr} (h : H a ≠ none) : H' a ≠ none := by
  cases q : H a with
  | none => exact absurd q h
  | some o => exact (e a o q).ne
theorem Ex.trans {H H1 H2 : Hp} (a : Ex H H1) (b : Ex H1 H2) : Ex H H2 := fun x o h => by
  have h1 := a x o h
  rcases mark_dec o with ⟨r, rfl⟩ | n
  · cases e : H1 x with
    | none => exact absurd e h1.1
    | some o1 =>
      have h2 := b x o1 e
      rcases mark_dec o1 with ⟨r', rfl⟩ | n
      · exact h2
      · rw [h2.get n, ← e]; exact h1
  · exact b x o (h1.get n)
theorem upd_keep {H : Hp} {p a : Addr} {o u : HO} (h : H p = none) (e : H a = some u) : upd H p o a = some u := by
  rw [upd_ne (ne_of_none e h)]
  exact e
theorem Ex.new {H : Hp} {p : Addr} {o : HO} (h : H p = none) : Ex H (upd H p o) := fun a u e => Kp.of (upd_keep h e)
theorem Ex.rd {H H' : Hp} {a : Addr} {u : HO} (e : Ex H H') (h : Rd H a u) (n : NG u) : Rd H' a u := by
  rcases h with h | ⟨o, h⟩
  · exact Or.inl ((e a _ h).get n)
  · exact Or.inr ⟨o, e a _ h⟩
theorem Ex.sl {K : PySem.W.Frag} {H H' : Hp} {a : Addr} {xs : List V} (e : Ex H H') (h : SqL K H a xs) : SqL K H' a xs := by
  rcases h with h | h
  · exact Or.inl (e.rd h fun _ z => nomatch z)
  · exact Or.inr h
theorem Ex.st {K : PySem.W.Frag} {H H' : Hp} {a : Addr} {xs : List V} (e : Ex H H') (h : SqT K H a xs) : SqT K H' a xs := by
  rcases h with h | h
  · exact Or.inl (e.rd h fun _ z => nomatch z)
  · exact Or.inr h

section
variable {K : PySem.W.Frag} {B B' : Hp}
mutual
theorem Rp.up (e : Ex B B') : ∀ {d : D} {v : V}, Rp K B d v → Rp K B' d v
  | .non, _, h => h
  | .bl _, _, h => h
  | .int _, _, h => h
  | .str _, _, h => h
  | .tup _, _, ⟨a, vs, h1, h2, h3⟩ => ⟨a, vs, h1, e.st h2, RpL.up e h3⟩
  | .lst _, _, ⟨a, vs, h1, h2, h3⟩ => ⟨a, vs, h1, e _ _ h2, RpL.up e h3⟩
  | .frz _, _, ⟨a, vs, h1, h2, h3⟩ => ⟨a, vs, h1, e.sl h2, RpL.up e h3⟩
  | .ins _ _, _, ⟨a, dx, vs, h1, h2, h3⟩ => ⟨a, dx, vs, h1, e _ _ h2, RpF.up e h3⟩
  | .dct _, _, ⟨a, vs, h1, h2, h3⟩ => ⟨a, vs, h1, e _ _ h2, RpK.up e h3⟩
  | .exn _ _ _ _, _, ⟨h1, .inl h2⟩ => ⟨h1, .inl h2⟩
  | .exn _ _ _ _, _, ⟨h1, .inr ⟨dd, vs, h2, h3, h4⟩⟩ => ⟨h1, .inr ⟨dd, vs, h2, e _ _ h3, RpF.up e h4⟩⟩
theorem RpL.up (e : Ex B B') : ∀ {ds : List D} {vs : List V}, RpL K B ds vs → RpL K B' ds vs
  | [], _, h => h
  | _ :: _, _, ⟨v, r, h1, h2, h3⟩ => ⟨v, r, h1, Rp.up e h2, RpL.up e h3⟩
theorem RpF.up (e : Ex B B') : ∀ {ds : List (Str × D)} {vs : List (Str × V)}, RpF K B ds vs → RpF K B' ds vs
  | [], _, h => h
  | _ :: _, _, ⟨v, r, h1, h2, h3⟩ => ⟨v, r, h1, Rp.up e h2, RpF.up e h3⟩
theorem RpK.up (e : Ex B B') : ∀ {ds : List (Key × D)} {vs : List (Key × V)}, RpK K B ds vs → RpK K B' ds vs
  | [], _, h => h
  | _ :: _, _, ⟨v, r, h1, h2, h3⟩ => ⟨v, r, h1, Rp.up e h2, RpK.up e h3⟩
end
theorem RpL.length : ∀ {ds : List D} {vs : List V}, RpL K B ds vs → vs.length = ds.length
  | [], _, h => by rw [show _ = [] from h]; rfl
  | d :: ds, _, ⟨v, r, h1, _, h3⟩ => by rw [h1, List.length_cons, List.length_cons, RpL.length h3]
theorem RpL.nil : RpL K B [] [] := rfl
theorem RpL.cons {d : D} {v : V} {ds : List D} {vs : List V} (h : Rp K B d v) (r : RpL K B ds vs) : RpL K B (d :: ds) (v :: vs) := ⟨v, vs, rfl, h, r⟩
theorem RpL.get : ∀ {ds : List D} {vs : List V} {i : Nat} {v : V}, RpL K B ds vs → vs[i]? = some v → ∃ d, ds[i]? = some d ∧ Rp K B d v
  | [], _, _, _, h, e => by rw [show _ = [] from h] at e; simp at e
  | d :: ds, _, 0, w, ⟨v, r, h1, h2, _⟩, e => by
    subst h1
    simp at e; subst e
    exact ⟨d, rfl, h2⟩
  | d :: ds, _, i + 1, w, ⟨v, r, h1, _, h3⟩, e => by
    subst h1
    obtain ⟨d', e1, e2⟩ := RpL.get (i := i) (v := w) h3 (by simpa using e)
    exact ⟨d', by simpa using e1, e2⟩
theorem RpL.getD' : ∀ {ds : List D} {vs : List V} {i : Nat} {d : D}, RpL K B ds vs → ds[i]? = some d → ∃ v, vs[i]? = some v ∧ Rp K B d v
  | [], _, _, _, h, e => by simp at e
  | d :: ds, _, 0, w, ⟨v, r, h1, h2, _⟩, e => by
    subst h1
    simp at e; subst e
    exact ⟨v, rfl, h2⟩
  | d :: ds, _, i + 1, w, ⟨v, r, h1, _, h3⟩, e => by
    subst h1
    obtain ⟨d', e1, e2⟩ := RpL.getD' (i := i) (d := w) h3 (by simpa using e)
    exact ⟨d', by simpa using e1, e2⟩
theorem RpL.append : ∀ {ds es : List D} {vs ws : List V}, RpL K B ds vs → RpL K B es ws → RpL K B (ds ++ es) (vs ++ ws)
  | [], _, _, _, h, h' => by rw [show _ = [] from h]; exact h'
  | d :: ds, _, _, _, ⟨v, r, h1, h2, h3⟩, h' => by subst h1; exact ⟨v, _, rfl, h2, RpL.append h3 h'⟩
theorem RpL.set : ∀ {ds : List D} {vs : List V} (i : Nat) {d : D} {v : V}, RpL K B ds vs → Rp K B d v → RpL K B (ds.set i d) (vs.set i v)
  | [], _, _, _, _, h, _ => by rw [show _ = [] from h]; exact rfl
  | d :: ds, _, 0, _, _, ⟨v, r, h1, h2, h3⟩, h' => by subst h1; exact ⟨_, r, rfl, h', h3⟩
  | d :: ds, _, i + 1, _, _, ⟨v, r, h1, h2, h3⟩, h' => by subst h1; exact ⟨v, _, rfl, h2, RpL.set i h3 h'⟩
theorem RpL.take : ∀ {ds : List D} {vs : List V} (n : Nat), RpL K B ds vs → RpL K B (ds.take n) (vs.take n)
  | _, _, 0, _ => by simp only [List.take_zero]; exact rfl
  | [], _, n + 1, h => by rw [show _ = [] from h]; exact rfl
  | d :: ds, _, n + 1, ⟨v, r, h1, h2, h3⟩ => by subst h1; exact ⟨v, _, rfl, h2, RpL.take n h3⟩
theorem RpL.drop : ∀ {ds : List D} {vs : List V} (n : Nat), RpL K B ds vs → RpL K B (ds.drop n) (vs.drop n)
  | _, _, 0, h => h
  | [], _, n + 1, h => by rw [show _ = [] from h]; exact rfl
  | d :: ds, _, n + 1, ⟨v, r, h1, h2, h3⟩ => by subst h1; exact RpL.drop n h3
theorem RpF.lookup {f : Str} : ∀ {ds : List (Str × D)} {vs : List (Str × V)} {d : D}, RpF K B ds vs → ds.lookup f = some d → ∃ v, vs.lookup f = some v ∧ Rp K B d v
  | [], _, _, _, e => by simp at e
  | (n, d) :: ds, _, w, ⟨v, r, h1, h2, h3⟩, e => by
    subst h1
    rw [List.lookup_cons] at e
    by_cases hn : f == n
    · rw [hn] at e
      simp at e; subst e
      exact ⟨v, by rw [List.lookup_cons, hn], h2⟩
    · have hn' : (f == n) = false := by simpa using hn
      rw [hn'] at e
      obtain ⟨v', e1, e2⟩ := RpF.lookup h3 e
      exact ⟨v', by rw [List.lookup_cons, hn']; exact e1, e2⟩
theorem RpF.lookup_none {f : Str} : ∀ {ds : List (Str × D)} {vs : List (Str × V)}, RpF K B ds vs → ds.lookup f = none → vs.lookup f = none
  | [], _, h, _ => by rw [show _ = [] from h]; rfl
  | (n, d) :: ds, _, ⟨v, r, h1, h2, h3⟩, e => by
    subst h1
    rw [List.lookup_cons] at e ⊢
    by_cases hn : f == n
    · rw [hn] at e; simp at e
    · have hn' : (f == n) = false := by simpa using hn
      rw [hn'] at e
      rw [hn']
      exact RpF.lookup_none h3 e
theorem RpF.length : ∀ {ds : List (Str × D)} {vs : List (Str × V)}, RpF K B ds vs → vs.length = ds.length
  | [], _, h => by rw [show _ = [] from h]; rfl
  | (n, d) :: ds, _, ⟨v, r, h1, _, h3⟩ => by rw [h1, List.length_cons, List.length_cons, RpF.length h3]
end

/-! ## Slots: immutable data, or an owned cell -/
/-- a tree of owned lists -/
inductive OT where
  | d (d : D) | l (xs : List OT)
mutual
def OT.toD : OT → D
  | .d e => e
  | .l xs => .lst (OT.toDs xs)
def OT.toDs : List OT → List D
  | [] => []
  | t :: ts => t.toD :: OT.toDs ts
end
inductive SV where
  | t (xs : List OT) | p (d : D) | l (xs : List D) | i (C : Addr) (fs : List (Str × D)) | k (kvs : List (Key × D)) | s (p C : Addr) (fs : List (Str × D)) | a (p : Addr) (xs : List D)
def SV.owned : SV → Bool
  | .p _ => false
  | _ => true
def SV.isT : SV → Bool
  | .t _ => true
  | _ => false
def SV.toD : SV → D
  | .t xs => .lst (OT.toDs xs)
  | .p d => d
  | .l xs => .lst xs
  | .i C fs => .ins C fs
  | .k kvs => .dct kvs
  | .s _ C fs => .ins C fs
  | .a _ xs => .lst xs
abbrev Rho := List (Option SV)
inductive RV where
  | d (d : D) | own (o : SV) | slot (i : Nat)

section
variable (K : PySem.W.Frag) (B H : Hp)
mutual
/-- the tree's cells below its root r are marked in the base; cs: these cells -/
def OTr (r : Addr) : OT → V → List Addr → Prop
  | .d d, v, cs => Rp K B d v ∧ cs = []
  | .l xs, v, cs => ∃ b vs ds, v = .ref b ∧ B b = some (.own r) ∧ H b = some (.lst vs) ∧ OTrL r xs vs ds ∧ cs = b :: ds
def OTrL (r : Addr) : List OT → List V → List Addr → Prop
  | [], vs, cs => vs = [] ∧ cs = []
  | t :: ts, vs, cs => ∃ v ws c1 c2, vs = v :: ws ∧ OTr r t v c1 ∧ OTrL r ts ws c2 ∧ cs = c1 ++ c2
end
def SVr : SV → V → Prop
  | .t xs, v => ∃ a vs cs, v = .ref a ∧ B a = none ∧ H a = some (.lst vs) ∧ OTrL K B H a xs vs cs ∧ cs.Nodup
  | .p d, v => Rp K B d v
  | .l xs, v => ∃ a vs, v = .ref a ∧ B a = none ∧ H a = some (.lst vs) ∧ RpL K B xs vs
  | .i C fs, v => ∃ a dx vs, v = .ref a ∧ B a = none ∧ H a = some (.ins C dx vs) ∧ RpF K B fs vs
  | .k kvs, v => ∃ a vs, v = .ref a ∧ B a = none ∧ H a = some (.dK vs) ∧ RpK K B kvs vs
  | .s p C fs, v => v = .ref p ∧ B p = none ∧ ∃ dx vs, H p = some (.ins C dx vs) ∧ RpF K B fs vs
  | .a p xs, v => v = .ref p ∧ B p = none ∧ ∃ vs, H p = some (.lst vs) ∧ RpL K B xs vs
end
/-- the slot's cell -/
def OwnAt (σ : St) (ρ : Rho) (a : Addr) : Prop := ∃ (i : Nat) (sv : SV), ρ[i]? = some (some sv) ∧ sv.owned = true ∧ σ[i]? = some (some (.ref a))
structure SR (K : PySem.W.Frag) (B H : Hp) (σ : St) (ρ : Rho) : Prop where
  ex : Ex B H
  len : σ.length = ρ.length
  slot : ∀ (i : Nat) (sv : SV), ρ[i]? = some (some sv) → ∃ v, σ[i]? = some (some v) ∧ SVr K B H sv v
  dis : ∀ (i j : Nat) (sv sv' : SV) (a : Addr), ρ[i]? = some (some sv) → sv.owned = true → ρ[j]? = some (some sv') → sv'.owned = true → σ[i]? = some (some (.ref a)) → σ[j]? = some (some (.ref a)) → i = j
/-- from one state to a later one: the base grows, what is neither base nor a slot's cell stays so -/
structure Step (B H : Hp) (σ : St) (ρ : Rho) (B' H' : Hp) (σ' : St) (ρ' : Rho) : Prop where
  bb : Ex B B'
  fr : ∀ a o, H a = some o → B a = none → ¬ OwnAt σ ρ a → H' a = some o ∧ B' a = none ∧ ¬ OwnAt σ' ρ' a
  dom : ∀ a, H' a = none → H a = none
  gh : ∀ a r, B a = some (.own r) → H r ≠ none → ¬ OwnAt σ ρ r → B' a = some (.own r) ∧ H' a = H a ∧ ¬ OwnAt σ' ρ' r
theorem Step.refl {B H : Hp} {σ : St} {ρ : Rho} : Step B H σ ρ B H σ ρ := ⟨Ex.refl _, fun _ _ h1 h2 h3 => ⟨h1, h2, h3⟩, fun _ h => h, fun _ _ h _ h' => ⟨h, rfl, h'⟩⟩
theorem Step.trans {B H B1 H1 B2 H2 : Hp} {σ σ1 σ2 : St} {ρ ρ1 ρ2 : Rho} (s : Step B H σ ρ B1 H1 σ1 ρ1) (t : Step B1 H1 σ1 ρ1 B2 H2 σ2 ρ2) : Step B H σ ρ B2 H2 σ2 ρ2 :=
  ⟨s.bb.trans t.bb, fun a o h1 h2 h3 => by
    obtain ⟨g1, g2, g3⟩ := s.fr a o h1 h2 h3
    exact t.fr a o g1 g2 g3, fun a h => s.dom a (t.dom a h), fun a r h1 h2 h3 => by
    obtain ⟨g1, g2, g3⟩ := s.gh a r h1 h2 h3
    obtain ⟨k1, k2, k3⟩ := t.gh a r g1 (fun z => h2 (s.dom r z)) g3
    exact ⟨k1, k2.trans g2, k3⟩⟩

theorem Step.own {B H B1 H1 : Hp} {σ σ1 σ2 : St} {ρ ρ1 ρ2 : Rho} (st : Step B H σ ρ B1 H1 σ1 ρ1) (k : ∀ a, OwnAt σ2 ρ2 a → OwnAt σ1 ρ1 a) : Step B H σ ρ B1 H1 σ2 ρ2 :=
  ⟨st.bb, fun a o e1 e2 e3 => by
    obtain ⟨g1, g2, g3⟩ := st.fr a o e1 e2 e3
    exact ⟨g1, g2, fun z => g3 (k a z)⟩, st.dom, fun a r e1 e2 e3 => by
    obtain ⟨g1, g2, g3⟩ := st.gh a r e1 e2 e3
    exact ⟨g1, g2, fun z => g3 (k r z)⟩⟩
/-- what an expression gave: data of the base, a new cell (new since H0), or a slot's cell -/
def RVr (K : PySem.W.Frag) (H0 B H : Hp) (σ : St) (ρ : Rho) : RV → V → Prop
  | .d d, v => Rp K B d v
  | .own sv, v => sv.owned = true ∧ SVr K B H sv v ∧ sv.isT = false ∧ ∃ a, v = .ref a ∧ H0 a = none ∧ ¬ OwnAt σ ρ a
  | .slot i, v => σ[i]? = some (some v) ∧ ∃ sv : SV, ρ[i]? = some (some sv) ∧ sv.isT = false

/-- the content, whatever holds it -/
def view (ρ : Rho) : RV → D
  | .d e => e
  | .own o => o.toD
  | .slot i => match ρ[i]? with
    | some (some sv) => sv.toD
    | _ => .non

section
variable {K : PySem.W.Frag} {B H H0 B' H' : Hp} {σ σ' : St} {ρ ρ' : Rho}
mutual
theorem OTr.view (ex : Ex B H) {r : Addr} : ∀ {t : OT} {v : V} {cs : List Addr}, OTr K B H r t v cs → Rp K H t.toD v
  | .d _, _, _, ⟨h, _⟩ => Rp.up ex h
  | .l _, _, _, ⟨b, vs, ds, h1, _, h3, h4, _⟩ => ⟨b, vs, h1, h3, OTrL.view ex h4⟩
theorem OTrL.view (ex : Ex B H) {r : Addr} : ∀ {ts : List OT} {vs : List V} {cs : List Addr}, OTrL K B H r ts vs cs → RpL K H (OT.toDs ts) vs
  | [], _, _, ⟨h, _⟩ => h
  | _ :: _, _, _, ⟨v, ws, c1, c2, h1, h2, h3, _⟩ => ⟨v, ws, h1, OTr.view ex h2, OTrL.view ex h3⟩
end
mutual
/-- what the tree's cells are -/
theorem OTr.cells {r : Addr} : ∀ {t : OT} {v : V} {cs : List Addr}, OTr K B H r t v cs → ∀ c, c ∈ cs → B c = some (.own r) ∧ ∃ vs, H c = some (.lst vs)
  | .d _, _, _, ⟨_, h⟩, c, hc => by subst h; cases hc
  | .l _, _, _, ⟨b, vs, ds, h1, h2, h3, h4, h5⟩, c, hc => by
    subst h5
    rcases List.mem_cons.mp hc with z | z
    · subst z; exact ⟨h2, vs, h3⟩
    · exact OTrL.cells h4 c z
theorem OTrL.cells {r : Addr} : ∀ {ts : List OT} {vs : List V} {cs : List Addr}, OTrL K B H r ts vs cs → ∀ c, c ∈ cs → B c = some (.own r) ∧ ∃ vs, H c = some (.lst vs)
  | [], _, _, ⟨_, h⟩, c, hc => by subst h; cases hc
  | _ :: _, _, _, ⟨v, ws, c1, c2, h1, h2, h3, h4⟩, c, hc => by
    subst h4
    rcases List.mem_append.mp hc with z | z
    · exact OTr.cells h2 c z
    · exact OTrL.cells h3 c z
end
mutual
/-- a later state keeps the tree if it keeps its cells -/
theorem OTr.later {r : Addr} (bb : Ex B B') : ∀ {t : OT} {v : V} {cs : List Addr}, OTr K B H r t v cs → (∀ c, c ∈ cs → B' c = some (.own r) ∧ H' c = H c) → OTr K B' H' r t v cs
  | .d _, _, _, ⟨h, h'⟩, _ => ⟨Rp.up bb h, h'⟩
  | .l _, _, _, ⟨b, vs, ds, h1, h2, h3, h4, h5⟩, k => by
    subst h5
    obtain ⟨k1, k2⟩ := k b (List.mem_cons_self ..)
    exact ⟨b, vs, ds, h1, k1, k2.trans h3, OTrL.later bb h4 fun c hc => k c (List.mem_cons_of_mem _ hc), rfl⟩
theorem OTrL.later {r : Addr} (bb : Ex B B') : ∀ {ts : List OT} {vs : List V} {cs : List Addr}, OTrL K B H r ts vs cs → (∀ c, c ∈ cs → B' c = some (.own r) ∧ H' c = H c) → OTrL K B' H' r ts vs cs
  | [], _, _, h, _ => h
  | _ :: _, _, _, ⟨v, ws, c1, c2, h1, h2, h3, h4⟩, k => by
    subst h4
    exact ⟨v, ws, c1, c2, h1, OTr.later bb h2 fun c hc => k c (List.mem_append_left _ hc), OTrL.later bb h3 fun c hc => k c (List.mem_append_right _ hc), rfl⟩
end
theorem SVr.view (ex : Ex B H) : ∀ {sv : SV} {v : V}, SVr K B H sv v → Rp K H sv.toD v
  | .t _, _, ⟨a, vs, cs, h1, _, h3, h4, _⟩ => ⟨a, vs, h1, h3, OTrL.view ex h4⟩
  | .p _, _, h => Rp.up ex h
  | .l _, _, ⟨a, vs, h1, _, h3, h4⟩ => ⟨a, vs, h1, h3, RpL.up ex h4⟩
  | .i _ _, _, ⟨a, dx, vs, h1, _, h3, h4⟩ => ⟨a, dx, vs, h1, h3, RpF.up ex h4⟩
  | .k _, _, ⟨a, vs, h1, _, h3, h4⟩ => ⟨a, vs, h1, h3, RpK.up ex h4⟩
  | .s _ _ _, _, ⟨h1, _, dx, vs, h3, h4⟩ => ⟨_, dx, vs, h1, h3, RpF.up ex h4⟩
  | .a _ _, _, ⟨h1, _, vs, h3, h4⟩ => ⟨_, vs, h1, h3, RpL.up ex h4⟩
theorem RVr.view (S : SR K B H σ ρ) : ∀ {r : RV} {v : V}, RVr K H0 B H σ ρ r v → Rp K H (view ρ r) v
  | .d _, _, h => Rp.up S.ex h
  | .own _, _, ⟨_, h, _⟩ => SVr.view S.ex h
  | .slot i, v, ⟨e, sv, q, _⟩ => by
    obtain ⟨v', e', r⟩ := S.slot i sv q
    rw [e] at e'; cases e'
    have := SVr.view S.ex r
    simp only [FP.view, q]
    exact this
/-- a list (or its cell): its items are data of the base -/
theorem SVr.items (ex : Ex B H) : ∀ {sv : SV} {v : V} {xs : List D}, SVr K B H sv v → sv.isT = false → sv.toD = .lst xs → ∃ a vs, v = .ref a ∧ H a = some (.lst vs) ∧ RpL K B xs vs
  | .t _, _, _, _, nt, _ => by cases nt
  | .p d, v, xs, h, _, e => by
    have e' : d = .lst xs := e
    subst e'
    obtain ⟨a, vs, h1, h2, h3⟩ := h
    exact ⟨a, vs, h1, ex _ _ h2, h3⟩
  | .l ys, v, xs, ⟨a, vs, h1, _, h3, h4⟩, _, e => by
    have e' : ys = xs := by injection e
    subst e'
    exact ⟨a, vs, h1, h3, h4⟩
  | .i _ _, _, _, _, _, e => by cases e
  | .k _, _, _, _, _, e => by cases e
  | .s _ _ _, _, _, _, _, e => by cases e
  | .a _ ys, v, xs, ⟨h1, _, vs, h3, h4⟩, _, e => by
    have e' : ys = xs := by injection e
    subst e'
    exact ⟨_, vs, h1, h3, h4⟩
theorem SVr.fitems (ex : Ex B H) : ∀ {sv : SV} {v : V} {xs : List D}, SVr K B H sv v → sv.toD = .frz xs → ∃ a vs, v = .ref a ∧ SqL K H a vs ∧ RpL K B xs vs
  | .t _, _, _, _, e => by cases e
  | .p d, v, xs, h, e => by
    have e' : d = .frz xs := e
    subst e'
    obtain ⟨a, vs, h1, h2, h3⟩ := h
    exact ⟨a, vs, h1, ex.sl h2, h3⟩
  | .l ys, v, xs, _, e => by cases e
  | .i _ _, _, _, _, e => by cases e
  | .k _, _, _, _, e => by cases e
  | .s _ _ _, _, _, _, e => by cases e
  | .a _ _, _, _, _, e => by cases e
theorem SVr.titems (ex : Ex B H) : ∀ {sv : SV} {v : V} {xs : List D}, SVr K B H sv v → sv.toD = .tup xs → ∃ a vs, v = .ref a ∧ SqT K H a vs ∧ RpL K B xs vs
  | .t _, _, _, _, e => by cases e
  | .p d, v, xs, h, e => by
    have e' : d = .tup xs := e
    subst e'
    obtain ⟨a, vs, h1, h2, h3⟩ := h
    exact ⟨a, vs, h1, ex.st h2, h3⟩
  | .l ys, v, xs, _, e => by cases e
  | .i _ _, _, _, _, e => by cases e
  | .k _, _, _, _, e => by cases e
  | .s _ _ _, _, _, _, e => by cases e
  | .a _ _, _, _, _, e => by cases e
theorem SVr.fields (ex : Ex B H) : ∀ {sv : SV} {v : V} {C : Addr} {fs : List (Str × D)}, SVr K B H sv v → sv.toD = .ins C fs → ∃ a dx vs, v = .ref a ∧ H a = some (.ins C dx vs) ∧ RpF K B fs vs
  | .t _, _, _, _, _, e => by cases e
  | .p d, v, C, fs, h, e => by
    have e' : d = .ins C fs := e
    subst e'
    obtain ⟨a, dx, vs, h1, h2, h3⟩ := h
    exact ⟨a, dx, vs, h1, ex _ _ h2, h3⟩
  | .l ys, v, _, _, _, e => by cases e
  | .i _ _, _, _, _, ⟨a, dx, vs, h1, _, h3, h4⟩, e => by
    injection e with e1 e2
    subst e1; subst e2
    exact ⟨a, dx, vs, h1, h3, h4⟩
  | .k _, _, _, _, _, e => by cases e
  | .s _ _ _, _, _, _, ⟨h1, _, dx, vs, h3, h4⟩, e => by
    injection e with e1 e2
    subst e1; subst e2
    exact ⟨_, dx, vs, h1, h3, h4⟩
  | .a _ _, _, _, _, _, e => by cases e
/-- the slot's or the cell's content as SVr -/
theorem RVr.sv (S : SR K B H σ ρ) : ∀ {r : RV} {v : V}, RVr K H0 B H σ ρ r v → ∃ sv, SVr K B H sv v ∧ sv.isT = false ∧ sv.toD = FP.view ρ r
  | .d d, _, h => ⟨.p d, h, rfl, rfl⟩
  | .own o, _, ⟨_, h, nt, _⟩ => ⟨o, h, nt, rfl⟩
  | .slot i, v, ⟨e, sv, q, nt⟩ => by
    obtain ⟨v', e', r⟩ := S.slot i sv q
    rw [e] at e'; cases e'
    exact ⟨sv, r, nt, by simp only [FP.view, q]⟩
theorem RVr.items (S : SR K B H σ ρ) {r : RV} {v : V} {xs : List D} (h : RVr K H0 B H σ ρ r v) (e : FP.view ρ r = .lst xs) : ∃ a vs, v = .ref a ∧ H a = some (.lst vs) ∧ RpL K B xs vs := by
  obtain ⟨sv, h1, nt, h2⟩ := h.sv S
  exact SVr.items S.ex h1 nt (h2.trans e)
theorem RVr.fitems (S : SR K B H σ ρ) {r : RV} {v : V} {xs : List D} (h : RVr K H0 B H σ ρ r v) (e : FP.view ρ r = .frz xs) : ∃ a vs, v = .ref a ∧ SqL K H a vs ∧ RpL K B xs vs := by
  obtain ⟨sv, h1, _, h2⟩ := h.sv S
  exact SVr.fitems S.ex h1 (h2.trans e)
theorem RVr.titems (S : SR K B H σ ρ) {r : RV} {v : V} {xs : List D} (h : RVr K H0 B H σ ρ r v) (e : FP.view ρ r = .tup xs) : ∃ a vs, v = .ref a ∧ SqT K H a vs ∧ RpL K B xs vs := by
  obtain ⟨sv, h1, _, h2⟩ := h.sv S
  exact SVr.titems S.ex h1 (h2.trans e)
theorem RVr.fields (S : SR K B H σ ρ) {r : RV} {v : V} {C : Addr} {fs : List (Str × D)} (h : RVr K H0 B H σ ρ r v) (e : FP.view ρ r = .ins C fs) : ∃ a dx vs, v = .ref a ∧ H a = some (.ins C dx vs) ∧ RpF K B fs vs := by
  obtain ⟨sv, h1, _, h2⟩ := h.sv S
  exact SVr.fields S.ex h1 (h2.trans e)
/-- a later state: a pending result stays -/
theorem SVr.later {sv : SV} {v : V} (h : SVr K B H sv v) (bb : Ex B B') (hk : sv.owned = true → ∀ a o, v = .ref a → H a = some o → B a = none → H' a = some o ∧ B' a = none)
    (hg : sv.isT = true → ∀ a, v = .ref a → ∀ c, B c = some (.own a) → H a ≠ none → B' c = some (.own a) ∧ H' c = H c) : SVr K B' H' sv v := by
  cases sv with
  | t xs =>
    obtain ⟨a, vs, cs, h1, h2, h3, h4, h5⟩ := h
    obtain ⟨g1, g2⟩ := hk rfl a _ h1 h3 h2
    exact ⟨a, vs, cs, h1, g2, g1, OTrL.later bb h4 fun c hc => hg rfl a h1 c (OTrL.cells h4 c hc).1 (by rw [h3]; exact Option.some_ne_none _), h5⟩
  | p d => exact Rp.up bb h
  | l xs =>
    obtain ⟨a, vs, h1, h2, h3, h4⟩ := h
    obtain ⟨g1, g2⟩ := hk rfl a _ h1 h3 h2
    exact ⟨a, vs, h1, g2, g1, RpL.up bb h4⟩
  | i C fs =>
    obtain ⟨a, dx, vs, h1, h2, h3, h4⟩ := h
    obtain ⟨g1, g2⟩ := hk rfl a _ h1 h3 h2
    exact ⟨a, dx, vs, h1, g2, g1, RpF.up bb h4⟩
  | k kvs =>
    obtain ⟨a, vs, h1, h2, h3, h4⟩ := h
    obtain ⟨g1, g2⟩ := hk rfl a _ h1 h3 h2
    exact ⟨a, vs, h1, g2, g1, RpK.up bb h4⟩
  | s p C fs =>
    obtain ⟨h1, h2, dx, vs, h3, h4⟩ := h
    obtain ⟨g1, g2⟩ := hk rfl p _ h1 h3 h2
    exact ⟨h1, g2, dx, vs, g1, RpF.up bb h4⟩
  | a p xs =>
    obtain ⟨h1, h2, vs, h3, h4⟩ := h
    obtain ⟨g1, g2⟩ := hk rfl p _ h1 h3 h2
    exact ⟨h1, g2, vs, g1, RpL.up bb h4⟩
theorem SVr.cell {sv : SV} {v : V} (h : SVr K B H sv v) (o : sv.owned = true) : ∃ a u, v = .ref a ∧ H a = some u ∧ B a = none := by
  cases sv with
  | t xs =>
    obtain ⟨a, vs, cs, h1, h2, h3, h4, h5⟩ := h
    exact ⟨a, _, h1, h3, h2⟩
  | p d => cases o
  | l xs =>
    obtain ⟨a, vs, h1, h2, h3, h4⟩ := h
    exact ⟨a, _, h1, h3, h2⟩
  | i C fs =>
    obtain ⟨a, dx, vs, h1, h2, h3, h4⟩ := h
    exact ⟨a, _, h1, h3, h2⟩
  | k kvs =>
    obtain ⟨a, vs, h1, h2, h3, h4⟩ := h
    exact ⟨a, _, h1, h3, h2⟩
  | s p C fs =>
    obtain ⟨h1, h2, dx, vs, h3, h4⟩ := h
    exact ⟨p, _, h1, h3, h2⟩
  | a p xs =>
    obtain ⟨h1, h2, vs, h3, h4⟩ := h
    exact ⟨p, _, h1, h3, h2⟩
/-- the env keeps its slots' being filled -/
def Fills (ρ ρ' : Rho) : Prop := ∀ (i : Nat) (sv : SV), ρ[i]? = some (some sv) → sv.isT = false → ∃ sv', ρ'[i]? = some (some sv') ∧ sv'.isT = false
theorem RVr.later {r : RV} {v : V} (h : RVr K H0 B H σ ρ r v) (st : Step B H σ ρ B' H' σ ρ') (f : Fills ρ ρ') : RVr K H0 B' H' σ ρ' r v := by
  cases r with
  | d d => exact Rp.up st.bb h
  | own sv =>
    obtain ⟨h1, h2, nt, a, h3, h4, h5⟩ := h
    obtain ⟨a', u, e1, e2, e3⟩ := h2.cell h1
    rw [h3] at e1; cases e1
    obtain ⟨g1, g2, g3⟩ := st.fr a u e2 e3 h5
    exact ⟨h1, h2.later st.bb (fun _ a' o e q1 q2 => by
      rw [h3] at e; cases e
      obtain ⟨g1, g2, _⟩ := st.fr a o q1 q2 h5
      exact ⟨g1, g2⟩) (fun z => by rw [nt] at z; cases z), nt, a, h3, h4, g3⟩
  | slot i =>
    obtain ⟨h1, sv, h2, nt⟩ := h
    exact ⟨h1, f i sv h2 nt⟩
theorem RVr.h0 {r : RV} {v : V} {H1 : Hp} (h : RVr K H1 B H σ ρ r v) (d : ∀ a, H1 a = none → H0 a = none) : RVr K H0 B H σ ρ r v := by
  cases r with
  | d _ => exact h
  | own sv =>
    obtain ⟨h1, h2, nt, a, h3, h4, h5⟩ := h
    exact ⟨h1, h2, nt, a, h3, d a h4, h5⟩
  | slot i => exact h
end
end FP
namespace FP
open PySem L2

theorem of_rfl {α : Sort _} {a b : α} (h : a = b) : a = b := h
/-! ## What a piece of program does: fails to be told, gives a value, raises -/
structure Exn where
  cls : Value
  fs : List (Str × D)
  nm : Str := Str.empty
inductive Rs (α : Type) where
  | err | ok (a : α) (ρ : Rho) | exc (x : Exn) (ρ : Rho)
def Rs.bind {α β : Type} (x : Rs α) (f : α → Rho → Rs β) : Rs β := match x with
  | .err => .err
  | .ok a ρ => f a ρ
  | .exc x ρ => .exc x ρ
@[simp] theorem bind_err {α β : Type} (f : α → Rho → Rs β) : (Rs.err : Rs α).bind f = .err := of_rfl rfl
@[simp] theorem bind_ok {α β : Type} (a : α) (ρ : Rho) (f : α → Rho → Rs β) : (Rs.ok a ρ).bind f = f a ρ := of_rfl rfl
@[simp] theorem bind_exc {α β : Type} (x : Exn) (ρ : Rho) (f : α → Rho → Rs β) : (Rs.exc x ρ : Rs α).bind f = .exc x ρ := of_rfl rfl
/-- the raised object's class and own dict -/
def XR (K : PySem.W.Frag) (H0 B H : Hp) (x : Exn) (cls : Value) (d : Option Addr) : Prop := cls = x.cls ∧ match d with
  | none => x.fs = []
  | some a => x.fs ≠ [] ∧ H0 a = none ∧ ∃ vs, H a = some (.xd vs) ∧ RpF K B x.fs vs
theorem XR.h0 {K : PySem.W.Frag} {H0 H1 B H : Hp} {x : Exn} {cls : Value} {d : Option Addr} (h : XR K H1 B H x cls d) (k : ∀ a, H1 a = none → H0 a = none) : XR K H0 B H x cls d := by
  cases d with
  | none => exact h
  | some a => exact ⟨h.1, h.2.1, k a h.2.2.1, h.2.2.2⟩

theorem Fills.refl {ρ : Rho} : Fills ρ ρ := fun _ sv h nt => ⟨sv, h, nt⟩
theorem Fills.trans {ρ ρ1 ρ2 : Rho} (a : Fills ρ ρ1) (b : Fills ρ1 ρ2) : Fills ρ ρ2 := fun i sv h nt => by
  obtain ⟨sv', h', nt'⟩ := a i sv h nt
  exact b i sv' h' nt'
/-! ## A tree becomes data of the base -/
section
variable {K : PySem.W.Frag} {B H B' : Hp}
mutual
theorem OTr.frz {r : Addr} (bb : Ex B B') : ∀ {t : OT} {v : V} {cs : List Addr}, OTr K B H r t v cs → (∀ c, c ∈ cs → B' c = H c) → Rp K B' t.toD v
  | .d _, _, _, ⟨h, _⟩, _ => Rp.up bb h
  | .l _, _, _, ⟨b, vs, ds, h1, _, h3, h4, h5⟩, k => by
    subst h5
    exact ⟨b, vs, h1, (k b (List.mem_cons_self ..)).trans h3, OTrL.frz bb h4 fun c hc => k c (List.mem_cons_of_mem _ hc)⟩
theorem OTrL.frz {r : Addr} (bb : Ex B B') : ∀ {ts : List OT} {vs : List V} {cs : List Addr}, OTrL K B H r ts vs cs → (∀ c, c ∈ cs → B' c = H c) → RpL K B' (OT.toDs ts) vs
  | [], _, _, ⟨h, _⟩, _ => h
  | _ :: _, _, _, ⟨v, ws, c1, c2, h1, h2, h3, h4⟩, k => by
    subst h4
    exact ⟨v, ws, h1, OTr.frz bb h2 fun c hc => k c (List.mem_append_left _ hc), OTrL.frz bb h3 fun c hc => k c (List.mem_append_right _ hc)⟩
end
theorem ownset {σ : St} {ρ : Rho} {i : Nat} {d : D} {a : Addr} (h : OwnAt σ (ρ.set i (some (.p d))) a) : OwnAt σ ρ a := by
  obtain ⟨j, sv, e1, o1, e2⟩ := h
  by_cases hj : i = j
  · subst hj
    have hl : i < ρ.length := by
      have := (List.getElem?_eq_some_iff.mp e1).1
      rwa [List.length_set] at this
    rw [List.getElem?_set_self hl] at e1
    cases e1; cases o1
  · rw [List.getElem?_set_ne hj] at e1
    exact ⟨j, sv, e1, o1, e2⟩
theorem SR.frzT {σ : St} {ρ : Rho} {i : Nat} {xs : List OT} (S : SR K B H σ ρ) (e : ρ[i]? = some (some (.t xs))) :
    ∃ B', SR K B' H σ (ρ.set i (some (.p (.lst (OT.toDs xs))))) ∧ Step B H σ ρ B' H σ (ρ.set i (some (.p (.lst (OT.toDs xs))))) ∧ Fills ρ (ρ.set i (some (.p (.lst (OT.toDs xs))))) ∧ ∃ v, σ[i]? = some (some v) ∧ Rp K B' (.lst (OT.toDs xs)) v := by
  obtain ⟨v, hv, a, vs, cs, rfl, h2, h3, h4, h5⟩ := S.slot i _ e
  have own_a : OwnAt σ ρ a := ⟨i, _, e, rfl, hv⟩
  have cc := OTrL.cells h4
  have hl : i < ρ.length := (List.getElem?_eq_some_iff.mp e).1
  let B' : Hp := fun c => if c = a ∨ c ∈ cs then H c else B c
  have inB : ∀ c, c = a ∨ c ∈ cs → B' c = H c := fun c h => if_pos h
  have outB : ∀ c, c ≠ a → c ∉ cs → B' c = B c := fun c h h' => if_neg fun z => z.elim h h'
  have noneB : ∀ c, B c = none → c ≠ a → B' c = none := fun c h1 h2 => by
    rw [outB c h2 fun z => by rw [(cc c z).1] at h1; cases h1]
    exact h1
  have gB : ∀ c r, B c = some (.own r) → r ≠ a → B' c = some (.own r) := fun c r h1 h3 => by
    rw [outB c (fun z => by rw [z, h2] at h1; cases h1) fun z => by
      rw [(cc c z).1] at h1
      injection h1 with h1; injection h1 with h1
      exact h3 h1.symm]
    exact h1
  have bb : Ex B B' := fun c o h => by
    by_cases h1 : c = a
    · subst h1; rw [h2] at h; cases h
    · by_cases h' : c ∈ cs
      · obtain ⟨q1, ws, q2⟩ := cc c h'
        rw [q1] at h; cases h
        show B' c ≠ none ∧ ∀ vs, B' c ≠ some (.xd vs)
        rw [inB c (.inr h'), q2]
        exact ⟨Option.some_ne_none _, fun vs z => by cases z⟩
      · refine Kp.of ?_
        rw [outB c h1 h']; exact h
  have bh : Ex B' H := fun c o h => by
    by_cases h1 : c = a ∨ c ∈ cs
    · rw [inB c h1] at h; exact Kp.of h
    · rw [outB c (fun z => h1 (.inl z)) (fun z => h1 (.inr z))] at h
      exact S.ex c o h
  have rp : Rp K B' (.lst (OT.toDs xs)) (.ref a) := ⟨a, vs, rfl, (inB a (.inl rfl)).trans h3, OTrL.frz bb h4 fun c hc => inB c (.inr hc)⟩
  have get_ne : ∀ j, j ≠ i → (ρ.set i (some (.p (.lst (OT.toDs xs)))))[j]? = ρ[j]? := fun j hj => List.getElem?_set_ne (Ne.symm hj)
  have get_i : (ρ.set i (some (.p (.lst (OT.toDs xs)))))[i]? = some (some (.p (.lst (OT.toDs xs)))) := List.getElem?_set_self hl
  have nown : ¬ OwnAt σ (ρ.set i (some (.p (.lst (OT.toDs xs))))) a := by
    rintro ⟨j, sv', g1, g2, g3⟩
    by_cases hj : j = i
    · subst hj; rw [get_i] at g1; cases g1; cases g2
    · rw [get_ne j hj] at g1
      exact hj (S.dis j i sv' _ a g1 g2 e rfl g3 hv)
  refine ⟨B', ⟨bh, by rw [List.length_set]; exact S.len, fun j sv' e' => ?_, fun j k sv1 sv2 b g1 g2 g3 g4 g5 g6 => ?_⟩, ⟨bb, fun b w e1 e2 e3 => ?_, fun _ h => h, fun c r e1 e2 e3 => ?_⟩, fun j sv h nt => ?_, .ref a, hv, rp⟩
  · by_cases hj : j = i
    · subst hj
      rw [get_i] at e'; cases e'
      exact ⟨_, hv, rp⟩
    · rw [get_ne j hj] at e'
      obtain ⟨v', g1, g2⟩ := S.slot j sv' e'
      have hne : ∀ b, sv'.owned = true → v' = .ref b → b ≠ a := fun b ow z => by
        rintro rfl
        exact hj (S.dis j i sv' _ b e' ow e rfl (by rw [g1, z]) hv)
      refine ⟨v', g1, g2.later bb (fun ow b w hb f1 f2 => ⟨f1, noneB b f2 (hne b ow hb)⟩) fun t b hb c f1 _ => ⟨gB c b f1 (hne b (by cases sv' <;> first | rfl | cases t) hb), rfl⟩⟩
  · have hj : j ≠ i := by rintro rfl; rw [get_i] at g1; cases g1; cases g2
    have hk : k ≠ i := by rintro rfl; rw [get_i] at g3; cases g3; cases g4
    rw [get_ne j hj] at g1
    rw [get_ne k hk] at g3
    exact S.dis j k sv1 sv2 b g1 g2 g3 g4 g5 g6
  · exact ⟨e1, noneB b e2 (by rintro rfl; exact e3 own_a), fun z => e3 (ownset z)⟩
  · exact ⟨gB c r e1 (by rintro rfl; exact e3 own_a), rfl, fun z => e3 (ownset z)⟩
  · by_cases hj : j = i
    · subst hj; rw [e] at h; cases h; cases nt
    · exact ⟨sv, by rw [get_ne j hj]; exact h, nt⟩
end

section
variable (K : PySem.W.Frag) (W : WX) (B H : Hp) (σ : St) (ρ : Rho)
def Post {α : Type} (good : Hp → Hp → Rho → α → Prop) : Rs α → Prop
  | .err => False
  | .ok a ρ' => ∀ B' H', SR K B' H' σ ρ' → Step B H σ ρ B' H' σ ρ' → Fills ρ ρ' → good B' H' ρ' a
  | .exc x ρ' => ∀ B' H' cls d, SR K B' H' σ ρ' → Step B H σ ρ B' H' σ ρ' → XR K H B' H' x cls d → W cls d σ H'
end
section
variable {K : PySem.W.Frag} {W : WX} {B H : Hp} {σ : St} {ρ : Rho}
theorem Post.bind {B0 H0 : Hp} {ρ0 : Rho} {α β : Type} {x : Rs α} {f : α → Rho → Rs β} {good : Hp → Hp → Rho → β → Prop} {g1 : Hp → Hp → Rho → α → Prop} (post : Post K W B0 H0 σ ρ0 good (x.bind f))
    (st : Step B0 H0 σ ρ0 B H σ ρ) (fl : Fills ρ0 ρ)
    (k : ∀ a ρ1 B1 H1, SR K B1 H1 σ ρ1 → Step B H σ ρ B1 H1 σ ρ1 → Fills ρ ρ1 → Post K W B0 H0 σ ρ0 good (f a ρ1) → g1 B1 H1 ρ1 a) : Post K W B H σ ρ g1 x := by
  cases x with
  | err => exact post
  | exc x ρ' => exact fun B1 H1 cls d S1 st1 xr => post B1 H1 cls d S1 (st.trans st1) (xr.h0 st.dom)
  | ok a ρ1 => exact fun B1 H1 S1 st1 f1 => k a ρ1 B1 H1 S1 st1 f1 post
theorem Post.bind0 {α β : Type} {x : Rs α} {f : α → Rho → Rs β} {good : Hp → Hp → Rho → β → Prop} {g1 : Hp → Hp → Rho → α → Prop} (post : Post K W B H σ ρ good (x.bind f))
    (k : ∀ a ρ1 B1 H1, SR K B1 H1 σ ρ1 → Step B H σ ρ B1 H1 σ ρ1 → Fills ρ ρ1 → Post K W B H σ ρ good (f a ρ1) → g1 B1 H1 ρ1 a) : Post K W B H σ ρ g1 x :=
  post.bind Step.refl Fills.refl k
/-- the same wish from a later start -/
theorem Post.shift {B0 H0 : Hp} {ρ0 : Rho} {α : Type} {x : Rs α} {good : Hp → Hp → Rho → α → Prop} (post : Post K W B0 H0 σ ρ0 good x) (st : Step B0 H0 σ ρ0 B H σ ρ) (fl : Fills ρ0 ρ) : Post K W B H σ ρ good x := by
  cases x with
  | err => exact post
  | exc x ρ' => exact fun B1 H1 cls d S1 st1 xr => post B1 H1 cls d S1 (st.trans st1) (xr.h0 st.dom)
  | ok a ρ1 => exact fun B1 H1 S1 st1 f1 => post B1 H1 S1 (st.trans st1) (fl.trans f1)
theorem Post.mono {α : Type} {x : Rs α} {g g' : Hp → Hp → Rho → α → Prop} (post : Post K W B H σ ρ g x)
    (k : ∀ a ρ1 B1 H1, SR K B1 H1 σ ρ1 → Step B H σ ρ B1 H1 σ ρ1 → Fills ρ ρ1 → g B1 H1 ρ1 a → g' B1 H1 ρ1 a) : Post K W B H σ ρ g' x := by
  cases x with
  | err => exact post
  | exc x ρ' => exact post
  | ok a ρ1 => exact fun B1 H1 S1 st f1 => k a ρ1 B1 H1 S1 st f1 (post B1 H1 S1 st f1)
/-- at once -/
theorem Post.here {α : Type} {a : α} {good : Hp → Hp → Rho → α → Prop} (S : SR K B H σ ρ) (post : Post K W B H σ ρ good (.ok a ρ)) : good B H ρ a := post B H S Step.refl Fills.refl
end

/-- values of several results; new cells stand apart -/
def owns : List RV → List V → List V
  | .own _ :: rs, v :: vs => v :: owns rs vs
  | _ :: rs, _ :: vs => owns rs vs
  | _, _ => []
def RVl (K : PySem.W.Frag) (H0 B H : Hp) (σ : St) (ρ : Rho) : List RV → List V → Prop
  | [], vs => vs = []
  | r :: rs, vs => ∃ v ws, vs = v :: ws ∧ RVr K H0 B H σ ρ r v ∧ RVl K H0 B H σ ρ rs ws
def RVs (K : PySem.W.Frag) (H0 B H : Hp) (σ : St) (ρ : Rho) (rs : List RV) (vs : List V) : Prop := RVl K H0 B H σ ρ rs vs ∧ (owns rs vs).Nodup

/-! ## Judgements -/
section
variable (X : Cx) (W : WX)
structure FE (e : Expr) (F : Rho → Rs RV) : Prop where
  ex : ∃ te, PE X e te ∧ ∀ B H σ ρ Q, SR X.K B H σ ρ → Post X.K W B H σ ρ (fun B' H' ρ' r => ∀ v, RVr X.K H B' H' σ ρ' r v → Q v H') (F ρ) → te σ H Q
structure FT (e : Expr) (F : Rho → Rs Bool) : Prop where
  ex : ∃ tt, PT X e tt ∧ ∀ B H σ ρ Q, SR X.K B H σ ρ → Post X.K W B H σ ρ (fun _ H' _ b => Q b H') (F ρ) → tt σ H Q
structure FW (e : Expr) (F : Rho → Rs Bool) : Prop where
  ex : ∃ tt, PW X e tt ∧ ∀ B H σ ρ Q, SR X.K B H σ ρ → Post X.K W B H σ ρ (fun _ H' _ b => Q b H') (F ρ) → tt σ H Q
structure FA (es : List Expr) (F : Rho → Rs (List RV)) : Prop where
  ex : ∃ ta, PA X es ta ∧ ∀ B H σ ρ Q, SR X.K B H σ ρ → Post X.K W B H σ ρ (fun B' H' ρ' rs => ∀ vs, RVs X.K H B' H' σ ρ' rs vs → Q vs H') (F ρ) → ta σ H Q
structure FK (kws : List Keyword) (F : Rho → Rs (List RV)) : Prop where
  ex : ∃ ta, PK X kws ta ∧ ∀ B H σ ρ Q, SR X.K B H σ ρ → Post X.K W B H σ ρ (fun B' H' ρ' rs => ∀ vs, RVs X.K H B' H' σ ρ' rs vs → Q vs H') (F ρ) → ta σ H Q
end

/-! ## Values -/
/-- a value that needs no heap -/
def D.flat : D → Option V
  | .non => some .non
  | .bl b => some (.bl b)
  | .int i => some (.int i)
  | .str s => some (.str s)
  | _ => none
theorem D.flat_rp {K : PySem.W.Frag} {B : Hp} : ∀ {d : D} {v w : V}, d.flat = some w → (Rp K B d v ↔ v = w)
  | .non, v, w, e => by cases e; exact Iff.rfl
  | .bl b, v, w, e => by cases e; exact Iff.rfl
  | .int i, v, w, e => by cases e; exact Iff.rfl
  | .str s, v, w, e => by cases e; exact Iff.rfl
  | .tup _, _, _, e => by cases e
  | .lst _, _, _, e => by cases e
  | .frz _, _, _, e => by cases e
  | .ins _ _, _, _, e => by cases e
  | .dct _, _, _, e => by cases e
  | .exn _ _ _ _, _, _, e => by cases e

section
variable {X : Cx} {W : WX} {pos : Pos}
/-! ### names and constants -/
def eVar (i : Nat) : Rho → Rs RV := fun ρ => match ρ[i]? with
  | some (some (.p d)) => .ok (.d d) ρ
  | some (some (.t xs)) => .ok (.d (.lst (OT.toDs xs))) (ρ.set i (some (.p (.lst (OT.toDs xs)))))
  | some (some _) => .ok (.slot i) ρ
  | _ => .err
theorem fe_var {i : Nat} {x : Str} (hN : X.N[i]? = some x) (hv : Vis X.env.scope x) (hd : (x == ("__debug__" : Str)) = false := by decide) (hcd : (x == ("__classdict__" : Str)) = false := by decide) : FE X W (.Name x pos) (eVar i) := by
  refine ⟨_, pe_var hN hv hd hcd, fun B H σ ρ Q S post => ?_⟩
  unfold eVar at post
  cases e : ρ[i]? with
  | none => rw [e] at post; exact post.elim
  | some o =>
    cases o with
    | none => rw [e] at post; exact post.elim
    | some sv =>
      obtain ⟨v, h1, h2⟩ := S.slot i sv e
      refine ⟨v, h1, ?_⟩
      rw [e] at post
      cases sv with
      | p d => exact post.here S v h2
      | t xs =>
        obtain ⟨B', S', st', fl', v', g1, g2⟩ := S.frzT e
        rw [h1] at g1; cases g1
        exact post B' H S' st' fl' v g2
      | l xs => exact post.here S v ⟨h1, _, e, rfl⟩
      | i C fs => exact post.here S v ⟨h1, _, e, rfl⟩
      | k kvs => exact post.here S v ⟨h1, _, e, rfl⟩
      | s p C fs => exact post.here S v ⟨h1, _, e, rfl⟩
      | a p xs => exact post.here S v ⟨h1, _, e, rfl⟩
def eC (d : D) : Rho → Rs RV := fun ρ => .ok (.d d) ρ
theorem fe_of_c {e : Expr} {d : D} {v : V} (h : PE X e (tC v)) (r : ∀ B, Rp X.K B d v) : FE X W e (eC d) :=
  ⟨_, h, fun _ _ _ _ _ S post => post.here S v (r _)⟩
theorem fe_int {i j} : FE X W (.Constant (.int i) j pos) (eC (.int i)) := fe_of_c pe_int fun _ => rfl
theorem fe_bl {b j} : FE X W (.Constant (.bool b) j pos) (eC (.bl b)) := fe_of_c pe_bl fun _ => rfl
theorem fe_non {j} : FE X W (.Constant .none j pos) (eC .non) := fe_of_c pe_non fun _ => rfl
theorem fe_str {x j} : FE X W (.Constant (.str x) j pos) (eC (.str x)) := fe_of_c pe_str fun _ => rfl
/-- a module's constant: d by what stands in the written part -/
theorem fe_glob {x : Str} {d : D} {v : V} {u : Value} (hg : Gl X x) (hm : X.mg x = some u) (r : RelV v u) (rp : ∀ B, Rp X.K B d v) (hd : (x == ("__debug__" : Str)) = false := by decide) : FE X W (.Name x pos) (eC d) :=
  fe_of_c (pe_glob hg hm r hd) rp

/-! ### two-place operations with flat results -/
def eBin (f : D → D → Option D) (a b : Rho → Rs RV) : Rho → Rs RV := fun ρ => (a ρ).bind fun x ρ1 => (b ρ1).bind fun y ρ2 => match f (view ρ2 x) (view ρ2 y) with
  | some d => .ok (.d d) ρ2
  | none => .err
structure Op2 (X : Cx) (op : Value → Value → Sem Value) (f : D → D → Option D) : Prop where
  ex : ∃ r, OpR X op r ∧ ∀ H x y dx dy d (Q : VK), Rp X.K H dx x → Rp X.K H dy y → f dx dy = some d → (∀ w, (∀ B, Rp X.K B d w) → Q w H) → r x y H Q
variable {a b : Expr} {A Bf : Rho → Rs RV}
/-- both operands, then the values at hand -/
theorem two (ha : FE X W a A) (hb : FE X W b Bf) {g : RV → RV → Rho → Rs RV} : ∃ ta tb, PE X a ta ∧ PE X b tb ∧ ∀ B H σ ρ (Q : VK) (R : V → V → Hp → Prop), SR X.K B H σ ρ →
    Post X.K W B H σ ρ (fun B' H' ρ' r => ∀ v, RVr X.K H B' H' σ ρ' r v → Q v H') ((A ρ).bind fun x ρ1 => (Bf ρ1).bind fun y ρ2 => g x y ρ2) →
    (∀ x y ρ2 B2 H2 v w, SR X.K B2 H2 σ ρ2 → Step B H σ ρ B2 H2 σ ρ2 → Fills ρ ρ2 → RVr X.K H B2 H2 σ ρ2 x v → RVr X.K H B2 H2 σ ρ2 y w → (∀ (sv sv' : SV), x = .own sv → y = .own sv' → v ≠ w) →
      Post X.K W B H σ ρ (fun B' H' ρ' r => ∀ v, RVr X.K H B' H' σ ρ' r v → Q v H') (g x y ρ2) → R v w H2) → ta σ H fun v H1 => tb σ H1 fun w H2 => R v w H2 := by
  obtain ⟨ta, pa, oa⟩ := ha.ex
  obtain ⟨tb, pb, ob⟩ := hb.ex
  refine ⟨ta, tb, pa, pb, fun B H σ ρ Q R S post k => ?_⟩
  refine oa B H σ ρ _ S (post.bind0 fun x ρ1 B1 H1 S1 st1 f1 post1 v hv => ?_)
  refine ob B1 H1 σ ρ1 _ S1 (post1.bind st1 f1 fun y ρ2 B2 H2 S2 st2 f2 post2 w hw => ?_)
  refine k x y ρ2 B2 H2 v w S2 (st1.trans st2) (f1.trans f2) (hv.later st2 f2) (hw.h0 st1.dom) ?_ post2
  intro sv sv' e1 e2 e3
  subst e1; subst e2; subst e3
  obtain ⟨h1, h2, _, a, h3, h4, h5⟩ := hv
  obtain ⟨_, _, _, a', g3, g4, _⟩ := hw
  obtain ⟨a2, u, q1, q2, q3⟩ := h2.cell h1
  rw [h3] at q1; cases q1
  rw [h3] at g3; cases g3
  rw [g4] at q2; cases q2
theorem fe_op {op : Operator} {f : D → D → Option D} (ho : Op2 X (binaryOp op) f) (ha : FE X W a A) (hb : FE X W b Bf) : FE X W (.BinOp a op b pos) (eBin f A Bf) := by
  obtain ⟨r, hr, hf⟩ := ho.ex
  obtain ⟨ta, tb, pa, pb, k⟩ := two ha hb (g := fun x y ρ2 => match f (view ρ2 x) (view ρ2 y) with | some d => .ok (.d d) ρ2 | none => .err)
  refine ⟨_, pe_op hr pa pb, fun B H σ ρ Q S post => ?_⟩
  refine k B H σ ρ Q (fun v w H2 => r v w H2 Q) S post fun x y ρ2 B2 H2 v w S2 st fl hv hw _ post2 => ?_
  cases e : f (view ρ2 x) (view ρ2 y) with
  | none => rw [e] at post2; exact post2.elim
  | some d =>
    rw [e] at post2
    exact hf H2 v w _ _ d Q (hv.view S2) (hw.view S2) e fun z hz => post2 B2 H2 S2 st fl z (hz _)
theorem fe_cmp {op : CmpOp} {f : D → D → Option D} (ho : Op2 X (compareOp op) f) (ha : FE X W a A) (hb : FE X W b Bf) (hm : behindInMarks op b = false) : FE X W (.Compare a [op] [b] pos) (eBin f A Bf) := by
  obtain ⟨r, hr, hf⟩ := ho.ex
  obtain ⟨ta, tb, pa, pb, k⟩ := two ha hb (g := fun x y ρ2 => match f (view ρ2 x) (view ρ2 y) with | some d => .ok (.d d) ρ2 | none => .err)
  refine ⟨_, pe_cmpR hr pa pb hm, fun B H σ ρ Q S post => ?_⟩
  refine k B H σ ρ Q (fun v w H2 => r v w H2 Q) S post fun x y ρ2 B2 H2 v w S2 st fl hv hw _ post2 => ?_
  cases e : f (view ρ2 x) (view ρ2 y) with
  | none => rw [e] at post2; exact post2.elim
  | some d =>
    rw [e] at post2
    exact hf H2 v w _ _ d Q (hv.view S2) (hw.view S2) e fun z hz => post2 B2 H2 S2 st fl z (hz _)
/-- a comparison as a test -/
def tBin (f : D → D → Option D) (a b : Rho → Rs RV) : Rho → Rs Bool := fun ρ => (a ρ).bind fun x ρ1 => (b ρ1).bind fun y ρ2 => match f (view ρ2 x) (view ρ2 y) with
  | some (.bl k) => .ok k ρ2
  | _ => .err
theorem two' (ha : FE X W a A) (hb : FE X W b Bf) {g : RV → RV → Rho → Rs Bool} : ∃ ta tb, PE X a ta ∧ PE X b tb ∧ ∀ B H σ ρ (Q : Bool → Hp → Prop) (R : V → V → Hp → Prop), SR X.K B H σ ρ →
    Post X.K W B H σ ρ (fun B' H' ρ' r => Q r H') ((A ρ).bind fun x ρ1 => (Bf ρ1).bind fun y ρ2 => g x y ρ2) →
    (∀ x y ρ2 B2 H2 v w, SR X.K B2 H2 σ ρ2 → Step B H σ ρ B2 H2 σ ρ2 → Fills ρ ρ2 → RVr X.K H B2 H2 σ ρ2 x v → RVr X.K H B2 H2 σ ρ2 y w →
      Post X.K W B H σ ρ (fun B' H' ρ' r => Q r H') (g x y ρ2) → R v w H2) → ta σ H fun v H1 => tb σ H1 fun w H2 => R v w H2 := by
  obtain ⟨ta, pa, oa⟩ := ha.ex
  obtain ⟨tb, pb, ob⟩ := hb.ex
  refine ⟨ta, tb, pa, pb, fun B H σ ρ Q R S post k => ?_⟩
  refine oa B H σ ρ _ S (post.bind0 fun x ρ1 B1 H1 S1 st1 f1 post1 v hv => ?_)
  refine ob B1 H1 σ ρ1 _ S1 (post1.bind st1 f1 fun y ρ2 B2 H2 S2 st2 f2 post2 w hw => ?_)
  exact k x y ρ2 B2 H2 v w S2 (st1.trans st2) (f1.trans f2) (hv.later st2 f2) (hw.h0 st1.dom) post2
theorem ft_cmp {op : CmpOp} {f : D → D → Option D} (ho : Op2 X (compareOp op) f) (ha : FE X W a A) (hb : FE X W b Bf) (hm : behindInMarks op b = false) : FT X W (.Compare a [op] [b] pos) (tBin f A Bf) := by
  obtain ⟨r, hr, hf⟩ := ho.ex
  obtain ⟨ta, tb, pa, pb, k⟩ := two' ha hb (g := fun x y ρ2 => match f (view ρ2 x) (view ρ2 y) with | some (.bl k) => .ok k ρ2 | _ => .err)
  refine ⟨_, pt_cmpR hr pa pb hm, fun B H σ ρ Q S post => ?_⟩
  refine k B H σ ρ Q (fun v w H2 => r v w H2 fun z H' => ∃ k, z = .bl k ∧ Q k H') S post fun x y ρ2 B2 H2 v w S2 st fl hv hw post2 => ?_
  cases e : f (view ρ2 x) (view ρ2 y) with
  | none => rw [e] at post2; exact post2.elim
  | some d =>
    rw [e] at post2
    cases d with
    | bl k => exact hf H2 v w _ _ _ _ (hv.view S2) (hw.view S2) e fun z hz => ⟨k, hz H2, post2 B2 H2 S2 st fl⟩
    | _ => exact post2.elim
end
end FP
namespace FP
open PySem L2

def BIG : Nat := 2 ^ 950
theorem big_pos : 0 < BIG := by decide
section
variable {X : Cx}
/-! ## Operators -/
def oAdd : D → D → Option D
  | .int i, .int j => some (.int (i + j))
  | .str x, .str y => if x.length + y.length ≤ 100000 then some (.str (x ++ y)) else none
  | _, _ => none
def oSub : D → D → Option D
  | .int i, .int j => some (.int (i - j))
  | _, _ => none
def oMul : D → D → Option D
  | .int i, .int j => if i.natAbs < BIG ∧ j.natAbs < BIG then some (.int (i * j)) else none
  | _, _ => none
def oDiv : D → D → Option D
  | .int i, .int j => if 0 < j ∧ j.natAbs < BIG then some (.int (i / j)) else none
  | _, _ => none
def oMod : D → D → Option D
  | .int i, .int j => if 0 < j then some (.int (i % j)) else none
  | _, _ => none
def oPow : D → D → Option D
  | .int i, .int j => if 0 ≤ j ∧ j ≤ 1000 ∧ i.natAbs < 1000 then some (.int (i ^ j.toNat)) else none
  | _, _ => none
def oLt : D → D → Option D
  | .int i, .int j => some (.bl (decide (i < j)))
  | _, _ => none
def oLe : D → D → Option D
  | .int i, .int j => some (.bl (decide (i ≤ j)))
  | _, _ => none
def oGt : D → D → Option D
  | .int i, .int j => some (.bl (decide (j < i)))
  | _, _ => none
def oGe : D → D → Option D
  | .int i, .int j => some (.bl (decide (j ≤ i)))
  | _, _ => none

theorem rp_int {K : PySem.W.Frag} {B : Hp} {i : Int} {v : V} (h : Rp K B (.int i) v) : v = .int i := h
theorem rp_str {K : PySem.W.Frag} {B : Hp} {i : Str} {v : V} (h : Rp K B (.str i) v) : v = .str i := h
theorem rp_bl {K : PySem.W.Frag} {B : Hp} {i : Bool} {v : V} (h : Rp K B (.bl i) v) : v = .bl i := h
theorem rp_non {K : PySem.W.Frag} {B : Hp} {v : V} (h : Rp K B .non v) : v = .non := h

theorem ints_of {op : Value → Value → Sem Value} {f : D → D → Option D} {C : Int → Int → Prop} {g : Int → Int → V} (hr : OpR X op (rI C g))
    (hf : ∀ dx dy d, f dx dy = some d → ∃ i j, dx = .int i ∧ dy = .int j ∧ C i j ∧ ∀ B, Rp X.K B d (g i j)) : Op2 X op f := by
  refine ⟨_, hr, fun H x y dx dy d Q hx hy e k => ?_⟩
  obtain ⟨i, j, rfl, rfl, hc, hg⟩ := hf dx dy d e
  cases rp_int hx; cases rp_int hy
  exact ⟨i, j, rfl, rfl, hc, k _ hg⟩
theorem ints_of0 {op : Value → Value → Sem Value} {f : D → D → Option D} {g : Int → Int → V} (hr : OpR X op (rI0 g))
    (hf : ∀ dx dy d, f dx dy = some d → ∃ i j, dx = .int i ∧ dy = .int j ∧ ∀ B, Rp X.K B d (g i j)) : Op2 X op f := by
  refine ⟨_, hr, fun H x y dx dy d Q hx hy e k => ?_⟩
  obtain ⟨i, j, rfl, rfl, hg⟩ := hf dx dy d e
  cases rp_int hx; cases rp_int hy
  exact ⟨i, j, rfl, rfl, k _ hg⟩
theorem o2_sub : Op2 X (binaryOp .Sub) oSub := ints_of0 op_sub fun dx dy d e => by
  unfold oSub at e; split at e <;> cases e
  exact ⟨_, _, rfl, rfl, fun _ => rfl⟩
theorem o2_mul : Op2 X (binaryOp .Mult) oMul := ints_of op_mulW fun dx dy d e => by
  unfold oMul at e; split at e
  · split at e <;> cases e
    rename_i h
    exact ⟨_, _, rfl, rfl, wide_mul (a := 950) (b := 950) h.1 h.2 (by decide) (by decide) (by decide), fun _ => rfl⟩
  · cases e
theorem o2_div : Op2 X (binaryOp .FloorDiv) oDiv := ints_of op_fdivW fun dx dy d e => by
  unfold oDiv at e; split at e
  · split at e <;> cases e
    rename_i h
    exact ⟨_, _, rfl, rfl, wide_div (b := 950) h.1 h.2 (by decide) (by decide), fun _ => rfl⟩
  · cases e
theorem o2_mod : Op2 X (binaryOp .Mod) oMod := ints_of op_mod fun dx dy d e => by
  unfold oMod at e; split at e
  · split at e <;> cases e
    rename_i h
    exact ⟨_, _, rfl, rfl, h, fun _ => rfl⟩
  · cases e
theorem o2_pow : Op2 X (binaryOp .Pow) oPow := ints_of op_pow fun dx dy d e => by
  unfold oPow at e; split at e
  · split at e <;> cases e
    rename_i h
    exact ⟨_, _, rfl, rfl, ⟨h.1, by omega, Nat.lt_trans h.2.2 (by decide)⟩, fun _ => rfl⟩
  · cases e
theorem o2_lt : Op2 X (compareOp .Lt) oLt := ints_of0 op_lt fun dx dy d e => by
  unfold oLt at e; split at e <;> cases e
  exact ⟨_, _, rfl, rfl, fun _ => rfl⟩
theorem o2_le : Op2 X (compareOp .LtE) oLe := ints_of0 op_le fun dx dy d e => by
  unfold oLe at e; split at e <;> cases e
  exact ⟨_, _, rfl, rfl, fun _ => rfl⟩
theorem o2_gt : Op2 X (compareOp .Gt) oGt := ints_of0 op_gt fun dx dy d e => by
  unfold oGt at e; split at e <;> cases e
  exact ⟨_, _, rfl, rfl, fun _ => rfl⟩
theorem o2_ge : Op2 X (compareOp .GtE) oGe := ints_of0 op_ge fun dx dy d e => by
  unfold oGe at e; split at e <;> cases e
  exact ⟨_, _, rfl, rfl, fun _ => rfl⟩
/-- is None -/
def D.isN : D → Bool
  | .non => true
  | _ => false
def oIsN : D → D → Option D
  | x, .non => some (.bl x.isN)
  | _, _ => none
def oNotN : D → D → Option D
  | x, .non => some (.bl !x.isN)
  | _, _ => none
theorem rp_isN {K : PySem.W.Frag} {B : Hp} : ∀ {d : D} {v : V}, Rp K B d v → decide (v = V.non) = d.isN
  | .non, _, h => by cases rp_non h; rfl
  | .bl _, _, h => by cases rp_bl h; rfl
  | .int _, _, h => by cases rp_int h; rfl
  | .str _, _, h => by cases rp_str h; rfl
  | .tup _, _, ⟨_, _, h, _⟩ => by subst h; rfl
  | .lst _, _, ⟨_, _, h, _⟩ => by subst h; rfl
  | .frz _, _, ⟨_, _, h, _⟩ => by subst h; rfl
  | .ins _ _, _, ⟨_, _, _, h, _⟩ => by subst h; rfl
  | .dct _, _, ⟨_, _, h, _⟩ => by subst h; rfl
  | .exn _ _ _ _, _, ⟨h, _⟩ => by subst h; rfl
theorem o2_isN : Op2 X (compareOp .Is) oIsN := by
  refine ⟨_, op_isN, fun H x y dx dy d Q hx hy e k => ?_⟩
  unfold oIsN at e; split at e <;> cases e
  cases rp_non hy
  exact ⟨rfl, k _ fun B => by rw [rp_isN hx]; rfl⟩
theorem o2_notN : Op2 X (compareOp .IsNot) oNotN := by
  refine ⟨_, op_notN, fun H x y dx dy d Q hx hy e k => ?_⟩
  unfold oNotN at e; split at e <;> cases e
  cases rp_non hy
  exact ⟨rfl, k _ fun B => by rw [rp_isN hx]; rfl⟩

/-! ### == of data -/
mutual
def toPy : D → PyData
  | .non => .none
  | .bl b => .bool b
  | .int i => .int i
  | .str s => .str s
  | .tup xs => .tuple (toPyL xs)
  | .lst xs => .list (toPyL xs)
  | .frz xs => .list (toPyL xs)
  | .ins _ _ => .none
  | .dct _ => .none
  | .exn _ _ _ _ => .none
def toPyL : List D → List PyData
  | [] => []
  | d :: ds => toPy d :: toPyL ds
end
mutual
def pyOk : D → Bool
  | .tup xs => pyOkL xs
  | .lst xs => pyOkL xs
  | .frz xs => pyOkL xs
  | .ins _ _ => false
  | .dct _ => false
  | .exn _ _ _ _ => false
  | _ => true
def pyOkL : List D → Bool
  | [] => true
  | d :: ds => pyOk d && pyOkL ds
end
def dok (d : D) : Bool := pyOk d && SeqAt.shaped (toPy d)
mutual
theorem dp_of {K : PySem.W.Frag} {H : Hp} : ∀ {d : D} {v : V}, Rp K H d v → pyOk d = true → Dp K H v (toPy d)
  | .non, _, h, _ => by cases rp_non h; exact .non
  | .bl _, _, h, _ => by cases rp_bl h; exact .bl _
  | .int _, _, h, _ => by cases rp_int h; exact .int _
  | .str _, _, h, _ => by cases rp_str h; exact .str _
  | .tup _, _, ⟨_, _, h, h2, h3⟩, o => by subst h; exact .tup h2 (dpl_of h3 o)
  | .lst _, _, ⟨_, _, h, h2, h3⟩, o => by subst h; exact .lst (SqL.of h2) (dpl_of h3 o)
  | .frz _, _, ⟨_, _, h, h2, h3⟩, o => by subst h; exact .lst h2 (dpl_of h3 o)
  | .ins _ _, _, _, o => by cases o
  | .dct _, _, _, o => by cases o
  | .exn _ _ _ _, _, _, o => by cases o
theorem dpl_of {K : PySem.W.Frag} {H : Hp} : ∀ {ds : List D} {vs : List V}, RpL K H ds vs → pyOkL ds = true → DpAll K H vs (toPyL ds)
  | [], _, h, _ => by rw [show _ = [] from h]; exact .nil
  | d :: ds, _, ⟨v, r, h1, h2, h3⟩, o => by
    subst h1
    have o' : pyOk d = true ∧ pyOkL ds = true := by simpa [pyOkL] using o
    exact .cons (dp_of h2 o'.1) (dpl_of h3 o'.2)
end
def D.eqv (x y : D) : Option Bool := match x.flat, y.flat with
  | some v, some w => if scal v w then some (decide (v = w)) else if dok x ∧ dok y then some (PyData.eqv (toPy x) (toPy y)) else none
  | _, _ => if dok x ∧ dok y then some (PyData.eqv (toPy x) (toPy y)) else none
def oEq (x y : D) : Option D := (D.eqv x y).map .bl
def oNe (x y : D) : Option D := (D.eqv x y).map fun b => .bl !b
theorem eqv_cases {x y : D} {b : Bool} (e : D.eqv x y = some b) : (∃ v w, x.flat = some v ∧ y.flat = some w ∧ scal v w = true ∧ b = decide (v = w)) ∨ (dok x = true ∧ dok y = true ∧ b = PyData.eqv (toPy x) (toPy y)) := by
  unfold D.eqv at e
  split at e
  · rename_i v w h1 h2
    split at e
    · rename_i hs
      cases e
      exact .inl ⟨v, w, h1, h2, hs, rfl⟩
    · split at e
      · rename_i h
        cases e
        exact .inr ⟨h.1, h.2, rfl⟩
      · cases e
  · split at e
    · rename_i h
      cases e
      exact .inr ⟨h.1, h.2, rfl⟩
    · cases e
theorem dok_and {d : D} (h : dok d = true) : pyOk d = true ∧ SeqAt.shaped (toPy d) = true := by
  unfold dok at h
  simpa using h
theorem o2_eq (hu : X.A.units + 64 < cLine) : Op2 X (compareOp .Eq) oEq := by
  refine ⟨_, op_eq.or (op_eqD hu), fun H x y dx dy d Q hx hy e k => ?_⟩
  unfold oEq at e
  obtain ⟨b, eb, rfl⟩ := Option.map_eq_some_iff.mp e
  rcases eqv_cases eb with ⟨v, w, h1, h2, hs, rfl⟩ | ⟨h1, h2, rfl⟩
  · cases (D.flat_rp h1).mp hx
    cases (D.flat_rp h2).mp hy
    exact .inl ⟨hs, k _ fun _ => rfl⟩
  · obtain ⟨g1, g2⟩ := dok_and h1
    obtain ⟨g3, g4⟩ := dok_and h2
    exact .inr ⟨_, _, dp_of hx g1, dp_of hy g3, g2, g4, k _ fun _ => rfl⟩
theorem o2_ne (hu : X.A.units + 64 < cLine) : Op2 X (compareOp .NotEq) oNe := by
  refine ⟨_, op_ne.or (op_neD hu), fun H x y dx dy d Q hx hy e k => ?_⟩
  unfold oNe at e
  obtain ⟨b, eb, rfl⟩ := Option.map_eq_some_iff.mp e
  rcases eqv_cases eb with ⟨v, w, h1, h2, hs, rfl⟩ | ⟨h1, h2, rfl⟩
  · cases (D.flat_rp h1).mp hx
    cases (D.flat_rp h2).mp hy
    exact .inl ⟨hs, k _ fun _ => rfl⟩
  · obtain ⟨g1, g2⟩ := dok_and h1
    obtain ⟨g3, g4⟩ := dok_and h2
    exact .inr ⟨_, _, dp_of hx g1, dp_of hy g3, g2, g4, k _ fun _ => rfl⟩

/-! ### in -/
def flats : List D → Option (List V)
  | [] => some []
  | d :: ds => match d.flat, flats ds with
    | some v, some vs => some (v :: vs)
    | _, _ => none
theorem flats_rp {K : PySem.W.Frag} {B : Hp} : ∀ {ds : List D} {vs ws : List V}, flats ds = some ws → RpL K B ds vs → vs = ws
  | [], _, _, e, h => by cases e; exact h
  | d :: ds, _, _, e, ⟨v, r, h1, h2, h3⟩ => by
    subst h1
    unfold flats at e
    split at e
    · rename_i v' vs' e1 e2
      cases e
      rw [(D.flat_rp e1).mp h2, flats_rp e2 h3]
    · cases e
theorem flat_flatV : ∀ {d : D} {v : V}, d.flat = some v → flatV v = true
  | .non, _, e => by cases e; rfl
  | .bl _, _, e => by cases e; rfl
  | .int _, _, e => by cases e; rfl
  | .str _, _, e => by cases e; rfl
  | .tup _, _, e => by cases e
  | .lst _, _, e => by cases e
  | .frz _, _, e => by cases e
  | .ins _ _, _, e => by cases e
  | .dct _, _, e => by cases e
  | .exn _ _ _ _, _, e => by cases e
theorem flats_flatV : ∀ {ds : List D} {ws : List V}, flats ds = some ws → ws.all flatV = true
  | [], _, e => by cases e; rfl
  | d :: ds, _, e => by
    unfold flats at e
    split at e
    · rename_i v' vs' e1 e2
      cases e
      rw [List.all_cons, flat_flatV e1, flats_flatV e2]; rfl
    · cases e
/-- the items of a list or a tuple -/
def D.items : D → Option (List D)
  | .lst xs => some xs
  | .frz xs => some xs
  | .tup xs => some xs
  | _ => none
def D.inS (x y : D) : Option Bool := match y with
  | .str z => match x with
    | .str c => match c.cps.toList with
      | [n] => some (decide (n ∈ z.cps.toList))
      | _ => none
    | _ => none
  | _ => match y.items, x.flat with
    | some ds, some v => match flats ds with
      | some ws => some (inV v ws)
      | none => none
    | _, _ => none
def oIn (x y : D) : Option D := (D.inS x y).map .bl
def oNotIn (x y : D) : Option D := (D.inS x y).map fun b => .bl !b
theorem items_rp {K : PySem.W.Frag} {H : Hp} : ∀ {d : D} {v : V} {ds : List D}, d.items = some ds → Rp K H d v → ∃ a vs, v = .ref a ∧ (SqL K H a vs ∨ SqT K H a vs) ∧ RpL K H ds vs
  | .lst _, _, _, e, ⟨a, vs, h1, h2, h3⟩ => by cases e; exact ⟨a, vs, h1, .inl (SqL.of h2), h3⟩
  | .frz _, _, _, e, ⟨a, vs, h1, h2, h3⟩ => by cases e; exact ⟨a, vs, h1, .inl h2, h3⟩
  | .tup _, _, _, e, ⟨a, vs, h1, h2, h3⟩ => by cases e; exact ⟨a, vs, h1, .inr h2, h3⟩
  | .non, _, _, e, _ => by cases e
  | .bl _, _, _, e, _ => by cases e
  | .int _, _, _, e, _ => by cases e
  | .str _, _, _, e, _ => by cases e
  | .ins _ _, _, _, e, _ => by cases e
  | .dct _, _, _, e, _ => by cases e
  | .exn _ _ _ _, _, _, e, _ => by cases e
theorem inS_cases {x y : D} {b : Bool} (e : D.inS x y = some b) : (∃ n z, x = .str ⟨#[n]⟩ ∧ y = .str z ∧ b = decide (n ∈ z.cps.toList)) ∨ ∃ ds v ws, y.items = some ds ∧ x.flat = some v ∧ flats ds = some ws ∧ b = inV v ws := by
  unfold D.inS at e
  split at e
  · rename_i z
    split at e
    · rename_i c
      split at e
      · rename_i n hn
        cases e
        refine .inl ⟨n, z, ?_, rfl, rfl⟩
        congr 1
        cases c with
        | mk cps =>
          congr 1
          have : cps.toList = [n] := hn
          exact Array.toList_inj.mp this
      · cases e
    · cases e
  · split at e
    · rename_i ds v h1 h2
      split at e
      · rename_i ws h3
        cases e
        exact .inr ⟨ds, v, ws, h1, h2, h3, rfl⟩
      · cases e
    · cases e
theorem o2_in : Op2 X (compareOp .In) oIn := by
  refine ⟨_, op_in_sign.or op_in_seq, fun H x y dx dy d Q hx hy e k => ?_⟩
  unfold oIn at e
  obtain ⟨b, eb, rfl⟩ := Option.map_eq_some_iff.mp e
  rcases inS_cases eb with ⟨n, z, rfl, rfl, rfl⟩ | ⟨ds, v, ws, h1, h2, h3, rfl⟩
  · cases rp_str hx; cases rp_str hy
    exact .inl ⟨n, z, rfl, rfl, k _ fun _ => rfl⟩
  · obtain ⟨a, vs, rfl, hs, hl⟩ := items_rp h1 hy
    cases (D.flat_rp h2).mp hx
    cases flats_rp h3 hl
    exact .inr ⟨a, _, rfl, hs, flat_flatV h2, flats_flatV h3, k _ fun _ => rfl⟩
theorem o2_notIn : Op2 X (compareOp .NotIn) oNotIn := by
  refine ⟨_, op_notIn_sign.or op_notIn_seq, fun H x y dx dy d Q hx hy e k => ?_⟩
  unfold oNotIn at e
  obtain ⟨b, eb, rfl⟩ := Option.map_eq_some_iff.mp e
  rcases inS_cases eb with ⟨n, z, rfl, rfl, rfl⟩ | ⟨ds, v, ws, h1, h2, h3, rfl⟩
  · cases rp_str hx; cases rp_str hy
    exact .inl ⟨n, z, rfl, rfl, k _ fun _ => rfl⟩
  · obtain ⟨a, vs, rfl, hs, hl⟩ := items_rp h1 hy
    cases (D.flat_rp h2).mp hx
    cases flats_rp h3 hl
    exact .inr ⟨a, _, rfl, hs, flat_flatV h2, flats_flatV h3, k _ fun _ => rfl⟩
end

/-! ## New objects, freezing -/
section
variable {K : PySem.W.Frag} {W : WX} {B H H0 : Hp} {σ : St} {ρ : Rho} {p : Addr} {o : HO}
theorem SR.notNew (S : SR K B H σ ρ) (hp : H p = none) : B p = none := by
  cases e : B p with
  | none => rfl
  | some o => exact absurd hp (S.ex p o e).ne
theorem SR.notOwn (S : SR K B H σ ρ) (hp : H p = none) : ¬ OwnAt σ ρ p := by
  rintro ⟨i, sv, h1, h2, h3⟩
  obtain ⟨v, e1, e2⟩ := S.slot i sv h1
  rw [h3] at e1; cases e1
  obtain ⟨a, u, q1, q2, _⟩ := e2.cell h2
  cases q1
  rw [hp] at q2; cases q2
/-- a new object, not of the base -/
theorem SR.new (S : SR K B H σ ρ) (hp : H p = none) : SR K B (upd H p o) σ ρ where
  ex := S.ex.trans (Ex.new hp)
  len := S.len
  slot := fun i sv h => by
    obtain ⟨v, e1, e2⟩ := S.slot i sv h
    exact ⟨v, e1, e2.later (Ex.refl _) (fun _ a u _ h1 h2 => ⟨upd_keep hp h1, h2⟩) fun _ a _ c h1 _ => ⟨h1, upd_ne fun z => (S.ex c _ h1).1 (by rw [z]; exact hp)⟩⟩
  dis := S.dis
theorem Step.new (S : SR K B H σ ρ) (hp : H p = none) : Step B H σ ρ B (upd H p o) σ ρ :=
  ⟨Ex.refl _, fun a u h1 h2 h3 => ⟨upd_keep hp h1, h2, h3⟩, fun a h => by
    by_cases e : a = p
    · subst e; exact hp
    · rw [upd_ne e] at h; exact h, fun c r h1 _ h3 => ⟨h1, upd_ne fun z => (S.ex c _ h1).1 (by rw [z]; exact hp), h3⟩⟩
/-- a new object of the base -/
theorem SR.newB (S : SR K B H σ ρ) (hp : H p = none) : SR K (upd B p o) (upd H p o) σ ρ where
  ex := fun a u h => by
    by_cases e : a = p
    · subst e; rw [upd_same] at h ⊢; exact Kp.of h
    · rw [upd_ne e] at h ⊢; exact S.ex a u h
  len := S.len
  slot := fun i sv h => by
    obtain ⟨v, e1, e2⟩ := S.slot i sv h
    refine ⟨v, e1, e2.later (Ex.new (S.notNew hp)) (fun _ a u _ h1 h2 => ⟨upd_keep hp h1, ?_⟩) fun _ a _ c h1 _ => ?_⟩
    · rw [upd_ne (ne_of_none h1 hp)]; exact h2
    · have : c ≠ p := fun z => (S.ex c _ h1).1 (by rw [z]; exact hp)
      exact ⟨by rw [upd_ne this]; exact h1, upd_ne this⟩
  dis := S.dis
theorem Step.newB (S : SR K B H σ ρ) (hp : H p = none) : Step B H σ ρ (upd B p o) (upd H p o) σ ρ :=
  ⟨Ex.new (S.notNew hp), fun a u h1 h2 h3 => ⟨upd_keep hp h1, by rw [upd_ne (ne_of_none h1 hp)]; exact h2, h3⟩, fun a h => by
    by_cases e : a = p
    · subst e; exact hp
    · rw [upd_ne e] at h; exact h, fun c r h1 _ h3 => by
    have : c ≠ p := fun z => (S.ex c _ h1).1 (by rw [z]; exact hp)
    exact ⟨by rw [upd_ne this]; exact h1, upd_ne this, h3⟩⟩

/-- the slot's content becomes data of the base -/
def frz (r : RV) (ρ : Rho) : Rho := match r with
  | .slot i => match ρ[i]? with
    | some (some sv) => ρ.set i (some (.p sv.toD))
    | _ => ρ
  | _ => ρ
def frzs : List RV → Rho → Rho
  | [], ρ => ρ
  | r :: rs, ρ => frzs rs (frz r ρ)
theorem SVr.freeze {sv : SV} {v : V} (h : SVr K B H sv v) (nt : sv.isT = false) {a : Addr} {o : HO} (hv : v = .ref a) (ho : H a = some o) (ow : sv.owned = true) : Rp K (upd B a o) sv.toD v := by
  cases sv with
  | t xs => cases nt
  | p d => cases ow
  | l xs =>
    obtain ⟨b, vs, h1, h2, h3, h4⟩ := h
    rw [hv] at h1; cases h1
    rw [ho] at h3; cases h3
    exact ⟨a, vs, hv, upd_same, RpL.up (Ex.new h2) h4⟩
  | i C fs =>
    obtain ⟨b, dx, vs, h1, h2, h3, h4⟩ := h
    rw [hv] at h1; cases h1
    rw [ho] at h3; cases h3
    exact ⟨a, dx, vs, hv, upd_same, RpF.up (Ex.new h2) h4⟩
  | k kvs =>
    obtain ⟨b, vs, h1, h2, h3, h4⟩ := h
    rw [hv] at h1; cases h1
    rw [ho] at h3; cases h3
    exact ⟨a, vs, hv, upd_same, RpK.up (Ex.new h2) h4⟩
  | s p C fs =>
    obtain ⟨h1, h2, dx, vs, h3, h4⟩ := h
    rw [hv] at h1; cases h1
    rw [ho] at h3; cases h3
    exact ⟨a, dx, vs, hv, upd_same, RpF.up (Ex.new h2) h4⟩
  | a p xs =>
    obtain ⟨h1, h2, vs, h3, h4⟩ := h
    rw [hv] at h1; cases h1
    rw [ho] at h3; cases h3
    exact ⟨a, vs, hv, upd_same, RpL.up (Ex.new h2) h4⟩
theorem frz_fills {r : RV} {ρ : Rho} : Fills ρ (frz r ρ) := fun i sv h nt => by
  cases r with
  | d _ => exact ⟨sv, h, nt⟩
  | own _ => exact ⟨sv, h, nt⟩
  | slot j =>
    unfold frz
    dsimp only
    split
    · rename_i sv' e
      by_cases hij : j = i
      · subst hij
        have hl : j < ρ.length := (List.getElem?_eq_some_iff.mp h).1
        exact ⟨_, List.getElem?_set_self hl, rfl⟩
      · exact ⟨sv, by rw [List.getElem?_set_ne hij]; exact h, nt⟩
    · exact ⟨sv, h, nt⟩
theorem frz_own {r : RV} {ρ : Rho} {a : Addr} (h : OwnAt σ (frz r ρ) a) : OwnAt σ ρ a := by
  cases r with
  | d _ => exact h
  | own _ => exact h
  | slot j =>
    unfold frz at h
    dsimp only at h
    split at h
    · rename_i sv' e
      obtain ⟨i, sv, h1, h2, h3⟩ := h
      by_cases hij : j = i
      · subst hij
        have hl : j < ρ.length := (List.getElem?_eq_some_iff.mp e).1
        rw [List.getElem?_set_self hl] at h1
        cases h1
        cases h2
      · rw [List.getElem?_set_ne hij] at h1
        exact ⟨i, sv, h1, h2, h3⟩
    · exact h
/-- one result is taken into the base -/
theorem take1 {r : RV} {v : V} {Bs Hs : Hp} {ρs : Rho} (S : SR K B H σ ρ) (st : Step Bs Hs σ ρs B H σ ρ) (h : RVr K Hs B H σ ρ r v) :
    ∃ B', Ex B B' ∧ SR K B' H σ (frz r ρ) ∧ Step Bs Hs σ ρs B' H σ (frz r ρ) ∧ Rp K B' (view ρ r) v ∧ (∀ b, B' b ≠ none → B b = none → (∃ sv, r = .own sv ∧ v = .ref b) ∨ OwnAt σ ρ b ∧ ¬ OwnAt σ (frz r ρ) b) ∧ (∀ c r, B c = some (.own r) → B' c = some (.own r)) ∧ ∀ b o, B b = none → B' b = some o → H b = some o := by
  cases r with
  | d d => exact ⟨B, Ex.refl _, S, st, h, fun b h1 h2 => absurd h2 h1, fun _ _ h => h, fun b o h1 h2 => by rw [h1] at h2; cases h2⟩
  | own sv =>
    obtain ⟨h1, h2, nt, a, h3, h4, h5⟩ := h
    obtain ⟨a', u, q1, q2, q3⟩ := h2.cell h1
    rw [h3] at q1; cases q1
    have gne : ∀ c r, B c = some (.own r) → c ≠ a := fun c r e z => by rw [z, q3] at e; cases e
    refine ⟨upd B a u, Ex.new q3, ⟨fun b w e => ?_, S.len, fun i sv' e => ?_, S.dis⟩, ⟨st.bb.trans (Ex.new q3), fun b w e1 e2 e3 => ?_, st.dom, fun c r e1 e2 e3 => ?_⟩, h2.freeze nt h3 q2 h1, fun b e1 e2 => ?_, fun c r f => by rw [upd_ne (gne c r f)]; exact f, fun b o f1 f2 => by
      by_cases hb : b = a
      · subst hb; rw [upd_same] at f2; cases f2; exact q2
      · rw [upd_ne hb, f1] at f2; cases f2⟩
    · by_cases hb : b = a
      · subst hb; rw [upd_same] at e; cases e; exact Kp.of q2
      · rw [upd_ne hb] at e; exact S.ex b w e
    · obtain ⟨v', e1, e2⟩ := S.slot i sv' e
      refine ⟨v', e1, e2.later (Ex.new q3) (fun ow b w hb g1 g2 => ⟨g1, ?_⟩) fun _ b _ c f1 _ => ⟨by rw [upd_ne (gne c b f1)]; exact f1, rfl⟩⟩
      have hne : b ≠ a := by
        rintro rfl
        exact h5 ⟨i, sv', e, ow, by rw [e1, hb]⟩
      rw [upd_ne hne]; exact g2
    · obtain ⟨g1, g2, g3⟩ := st.fr b w e1 e2 e3
      refine ⟨g1, ?_, g3⟩
      have hne : b ≠ a := by rintro rfl; rw [h4] at e1; cases e1
      rw [upd_ne hne]; exact g2
    · obtain ⟨g1, g2, g3⟩ := st.gh c r e1 e2 e3
      exact ⟨by rw [upd_ne (gne c r g1)]; exact g1, g2, g3⟩
    · by_cases hb : b = a
      · subst hb; exact .inl ⟨sv, rfl, h3⟩
      · rw [upd_ne hb] at e1; exact absurd e2 e1
  | slot i =>
    obtain ⟨h1, sv, h2, nt⟩ := h
    obtain ⟨v', e1, e2⟩ := S.slot i sv h2
    rw [h1] at e1; cases e1
    have hv : view ρ (.slot i) = sv.toD := by simp only [view, h2]
    have hf : frz (.slot i) ρ = ρ.set i (some (.p sv.toD)) := by simp only [frz, h2]
    have hl : i < ρ.length := (List.getElem?_eq_some_iff.mp h2).1
    cases ho : sv.owned with
    | false =>
      cases sv with
      | p d =>
        have hs : ρ.set i (some (.p (SV.p d).toD)) = ρ := by
          apply List.ext_getElem?
          intro j
          by_cases hij : i = j
          · subst hij; rw [List.getElem?_set_self hl]; exact h2.symm
          · rw [List.getElem?_set_ne hij]
        rw [hv, hf]
        rw [hs]
        exact ⟨B, Ex.refl _, S, st, e2, fun b h1 h2 => absurd h2 h1, fun _ _ h => h, fun b o h1 h2 => by rw [h1] at h2; cases h2⟩
      | t _ => cases ho
      | l _ => cases ho
      | i _ _ => cases ho
      | k _ => cases ho
      | s _ _ _ => cases ho
      | a _ _ => cases ho
    | true =>
      obtain ⟨a, u, q1, q2, q3⟩ := e2.cell ho
      have gne : ∀ c r, B c = some (.own r) → c ≠ a := fun c r e z => by rw [z, q3] at e; cases e
      have own_a : OwnAt σ ρ a := ⟨i, sv, h2, ho, by rw [h1, q1]⟩
      have get_ne : ∀ j, j ≠ i → (ρ.set i (some (.p sv.toD)))[j]? = ρ[j]? := fun j hj => List.getElem?_set_ne (Ne.symm hj)
      have get_i : (ρ.set i (some (.p sv.toD)))[i]? = some (some (.p sv.toD)) := List.getElem?_set_self hl
      rw [hv, hf]
      have nown : ¬ OwnAt σ (ρ.set i (some (.p sv.toD))) a := by
        rintro ⟨j, sv', g1, g2, g3⟩
        by_cases hj : j = i
        · subst hj; rw [get_i] at g1; cases g1; cases g2
        · rw [get_ne j hj] at g1
          exact hj (S.dis j i sv' sv a g1 g2 h2 ho g3 (by rw [h1, q1]))
      refine ⟨upd B a u, Ex.new q3, ⟨fun b w e => ?_, by rw [List.length_set]; exact S.len, fun j sv' e => ?_, fun j k sv1 sv2 b g1 g2 g3 g4 g5 g6 => ?_⟩, ⟨st.bb.trans (Ex.new q3), fun b w e1 e2 e3 => ?_, st.dom, fun c r e1 e2 e3 => ?_⟩, e2.freeze nt q1 q2 ho, fun b g1 g2 => ?_, fun c r f => by rw [upd_ne (gne c r f)]; exact f, fun b o f1 f2 => by
        by_cases hb : b = a
        · subst hb; rw [upd_same] at f2; cases f2; exact q2
        · rw [upd_ne hb, f1] at f2; cases f2⟩
      · by_cases hb : b = a
        · subst hb; rw [upd_same] at e; cases e; exact Kp.of q2
        · rw [upd_ne hb] at e; exact S.ex b w e
      · by_cases hj : j = i
        · subst hj
          rw [get_i] at e; cases e
          exact ⟨v, h1, e2.freeze nt q1 q2 ho⟩
        · rw [get_ne j hj] at e
          obtain ⟨v', g1, g2⟩ := S.slot j sv' e
          refine ⟨v', g1, g2.later (Ex.new q3) (fun ow b w hb f1 f2 => ⟨f1, ?_⟩) fun _ b _ c f1 _ => ⟨by rw [upd_ne (gne c b f1)]; exact f1, rfl⟩⟩
          have hne : b ≠ a := by
            rintro rfl
            exact hj (S.dis j i sv' sv b e ow h2 ho (by rw [g1, hb]) (by rw [h1, q1]))
          rw [upd_ne hne]; exact f2
      · have hj : j ≠ i := by rintro rfl; rw [get_i] at g1; cases g1; cases g2
        have hk : k ≠ i := by rintro rfl; rw [get_i] at g3; cases g3; cases g4
        rw [get_ne j hj] at g1
        rw [get_ne k hk] at g3
        exact S.dis j k sv1 sv2 b g1 g2 g3 g4 g5 g6
      · obtain ⟨g1, g2, g3⟩ := st.fr b w e1 e2 e3
        have hne : b ≠ a := by rintro rfl; exact g3 own_a
        refine ⟨g1, by rw [upd_ne hne]; exact g2, fun z => g3 ?_⟩
        have : OwnAt σ (frz (.slot i) ρ) b := by rw [hf]; exact z
        exact frz_own this
      · obtain ⟨g1, g2, g3⟩ := st.gh c r e1 e2 e3
        refine ⟨by rw [upd_ne (gne c r g1)]; exact g1, g2, fun z => g3 ?_⟩
        have : OwnAt σ (frz (.slot i) ρ) r := by rw [hf]; exact z
        exact frz_own this
      · by_cases hb : b = a
        · subst hb; exact .inr ⟨own_a, nown⟩
        · rw [upd_ne hb] at g1; exact absurd g2 g1
end
end FP
namespace FP
open PySem L2

section
variable {K : PySem.W.Frag} {W : WX} {B H H0 : Hp} {σ : St} {ρ : Rho}
theorem view_frz {r q : RV} : view (frz r ρ) q = view ρ q := by
  cases r with
  | d _ => rfl
  | own _ => rfl
  | slot i =>
    unfold frz
    dsimp only
    split
    · rename_i sv e
      cases q with
      | d _ => rfl
      | own _ => rfl
      | slot j =>
        simp only [view]
        by_cases hij : i = j
        · subst hij
          have hl : i < ρ.length := (List.getElem?_eq_some_iff.mp e).1
          rw [List.getElem?_set_self hl, e]
          rfl
        · rw [List.getElem?_set_ne hij]
    · rfl
theorem own_fresh : ∀ {rs : List RV} {vs : List V} {w : V}, RVl K H0 B H σ ρ rs vs → w ∈ owns rs vs → ∃ a, w = .ref a ∧ H0 a = none
  | [], vs, w, h, m => by rw [show vs = [] from h] at m; cases m
  | .d _ :: rs, vs, w, ⟨v, ws, h1, h2, h3⟩, m => by subst h1; exact own_fresh (rs := rs) h3 m
  | .slot _ :: rs, vs, w, ⟨v, ws, h1, h2, h3⟩, m => by subst h1; exact own_fresh (rs := rs) h3 m
  | .own sv :: rs, vs, w, ⟨v, ws, h1, h2, h3⟩, m => by
    subst h1
    rcases List.mem_cons.mp m with e | m
    · subst e
      obtain ⟨_, _, _, a, g1, g2, _⟩ := h2
      exact ⟨a, g1, g2⟩
    · exact own_fresh (rs := rs) h3 m
theorem RVl.imp {B' H' H0' : Hp} {ρ' : Rho} : ∀ {rs : List RV} {vs : List V}, RVl K H0 B H σ ρ rs vs → (∀ r v, r ∈ rs → (∀ sv, r = .own sv → v ∈ owns rs vs) → RVr K H0 B H σ ρ r v → RVr K H0' B' H' σ ρ' r v) → RVl K H0' B' H' σ ρ' rs vs
  | [], vs, h, _ => h
  | r :: rs, vs, ⟨v, ws, h1, h2, h3⟩, k => by
    subst h1
    refine ⟨v, ws, rfl, k r v List.mem_cons_self (fun sv e => by subst e; exact List.mem_cons_self) h2, RVl.imp h3 fun r' v' m o h => k r' v' (List.mem_cons_of_mem _ m) (fun sv e => ?_) h⟩
    have := o sv e
    cases r with
    | d _ => exact this
    | slot _ => exact this
    | own _ => exact List.mem_cons_of_mem _ this
theorem takes {Bs Hs : Hp} {ρs : Rho} : ∀ {rs : List RV} {vs : List V} {B : Hp} {ρ : Rho}, SR K B H σ ρ → Step Bs Hs σ ρs B H σ ρ → RVl K Hs B H σ ρ rs vs → (owns rs vs).Nodup →
    ∃ B', Ex B B' ∧ SR K B' H σ (frzs rs ρ) ∧ Step Bs Hs σ ρs B' H σ (frzs rs ρ) ∧ Fills ρ (frzs rs ρ) ∧ RpL K B' (rs.map (view ρ)) vs ∧
      (∀ b, B' b ≠ none → B b = none → V.ref b ∈ owns rs vs ∨ OwnAt σ ρ b ∧ ¬ OwnAt σ (frzs rs ρ) b) ∧ (∀ b, OwnAt σ (frzs rs ρ) b → OwnAt σ ρ b) ∧ (∀ c r, B c = some (.own r) → B' c = some (.own r)) ∧ ∀ b o, B b = none → B' b = some o → H b = some o
  | [], vs, B, ρ, S, st, h, _ => ⟨B, Ex.refl _, S, st, Fills.refl, h, fun b h1 h2 => absurd h2 h1, fun _ h => h, fun _ _ h => h, fun b o h1 h2 => by rw [h1] at h2; cases h2⟩
  | r :: rs, vs, B, ρ, S, st, ⟨v, ws, h1, h2, h3⟩, nd => by
    subst h1
    obtain ⟨B1, x1, S1, st1, rp, new1, gh1, nw1⟩ := take1 S st h2
    have nd' : (owns rs ws).Nodup := by
      cases r with
      | d _ => exact nd
      | slot _ => exact nd
      | own _ => exact (List.nodup_cons.mp nd).2
    have h3' : RVl K Hs B1 H σ (frz r ρ) rs ws := RVl.imp h3 fun r' v' m o h => by
      cases r' with
      | d _ => exact Rp.up x1 h
      | slot i =>
        obtain ⟨g1, sv, g2, nt⟩ := h
        exact ⟨g1, frz_fills i sv g2 nt⟩
      | own sv =>
        obtain ⟨g1, g2, nt, a, g3, g4, g5⟩ := h
        obtain ⟨a', u, q1, q2, q3⟩ := g2.cell g1
        rw [g3] at q1; cases q1
        have hB : B1 a = none := by
          cases e : B1 a with
          | none => rfl
          | some u' =>
            rcases new1 a (by rw [e]; simp) q3 with ⟨sv', e1, e2⟩ | ⟨e1, _⟩
            · subst e1
              have : v ∈ owns rs ws := by
                have := o sv rfl
                rw [e2, ← g3]; exact this
              exact absurd this (List.nodup_cons.mp nd).1
            · exact absurd e1 g5
        exact ⟨g1, g2.later x1 (fun _ b w e1 e2 e3 => by
          rw [g3] at e1; cases e1
          exact ⟨e2, hB⟩) (fun z => by rw [nt] at z; cases z), nt, a, g3, g4, fun z => g5 (frz_own z)⟩
    obtain ⟨B2, x2, S2, st2, f2, rp2, new2, own2, gh2, nw2⟩ := takes S1 st1 h3' nd'
    refine ⟨B2, x1.trans x2, S2, st2, frz_fills.trans f2, ?_, fun b e1 e2 => ?_, fun b hb => frz_own (own2 b hb), fun c r h => gh2 c r (gh1 c r h), fun b o h1 h2 => by
      cases e : B1 b with
      | none => exact nw2 b o e h2
      | some u =>
        have hu := nw1 b u h1 e
        rcases mark_dec u with ⟨r', rfl⟩ | n
        · rw [gh2 b r' e] at h2; cases h2; exact hu
        · have := (x2 b u e).get n
          rw [h2] at this; cases this; exact hu⟩
    · rw [List.map_cons]
      refine RpL.cons (Rp.up x2 rp) ?_
      have : rs.map (view (frz r ρ)) = rs.map (view ρ) := List.map_congr_left fun q _ => view_frz
      rw [← this]; exact rp2
    · by_cases hb : B1 b = none
      · rcases new2 b e1 hb with m | ⟨m1, m2⟩
        · left
          cases r with
          | d _ => exact m
          | slot _ => exact m
          | own _ => exact List.mem_cons_of_mem _ m
        · exact .inr ⟨frz_own m1, m2⟩
      · rcases new1 b hb e2 with ⟨sv', g1, g2⟩ | ⟨g1, g2⟩
        · left
          subst g1; rw [g2]; exact List.mem_cons_self
        · exact .inr ⟨g1, fun z => g2 (own2 b z)⟩
end

section
variable {X : Cx} {W : WX} {pos : Pos} {a b c e : Expr} {es : List Expr} {A Bf Cf F : Rho → Rs RV} {As : Rho → Rs (List RV)}
/-! ### arguments -/
def eNil : Rho → Rs (List RV) := fun ρ => .ok [] ρ
def eCons (a : Rho → Rs RV) (as : Rho → Rs (List RV)) : Rho → Rs (List RV) := fun ρ => (a ρ).bind fun r ρ1 => (as ρ1).bind fun rs ρ2 => .ok (r :: rs) ρ2
theorem fa_nil : FA X W [] eNil := ⟨_, pa_nil, fun B H σ ρ Q S post => post B H S Step.refl Fills.refl [] ⟨rfl, List.nodup_nil⟩⟩
theorem rvs_cons {K : PySem.W.Frag} {B H B1 H1 B2 H2 : Hp} {σ : St} {ρ ρ1 ρ2 : Rho} {r : RV} {rs : List RV} {v : V} {vs : List V} (st1 : Step B H σ ρ B1 H1 σ ρ1) (st2 : Step B1 H1 σ ρ1 B2 H2 σ ρ2) (f2 : Fills ρ1 ρ2)
    (hv : RVr K H B1 H1 σ ρ1 r v) (hvs : RVs K H1 B2 H2 σ ρ2 rs vs) : RVs K H B2 H2 σ ρ2 (r :: rs) (v :: vs) := by
  obtain ⟨h1, h2⟩ := hvs
  refine ⟨⟨v, vs, rfl, hv.later st2 f2, RVl.imp h1 fun r' v' _ _ h => h.h0 st1.dom⟩, ?_⟩
  cases r with
  | d _ => exact h2
  | slot _ => exact h2
  | own sv =>
    refine List.nodup_cons.mpr ⟨fun m => ?_, h2⟩
    obtain ⟨a, e1, e2⟩ := own_fresh h1 m
    obtain ⟨g1, g2, a', g3, g4, g5⟩ := hv
    obtain ⟨a2, u, q1, q2, q3⟩ := g2.cell g1
    rw [e1] at q1; cases q1
    rw [e2] at q2; cases q2
theorem fa_cons (ha : FE X W e F) (hr : FA X W es As) (hs : starEach (e :: es) X.env = (false, eval e X.env) :: starEach es X.env := by rfl) : FA X W (e :: es) (eCons F As) := by
  obtain ⟨ta, pa, oa⟩ := ha.ex
  obtain ⟨tb, pb, ob⟩ := hr.ex
  refine ⟨_, pa_cons pa pb hs, fun B H σ ρ Q S post => ?_⟩
  refine oa B H σ ρ _ S (post.bind0 fun x ρ1 B1 H1 S1 st1 f1 post1 v hv => ?_)
  refine ob B1 H1 σ ρ1 _ S1 (post1.bind st1 f1 fun rs ρ2 B2 H2 S2 st2 f2 post2 vs hvs => ?_)
  exact post2 B2 H2 S2 (st1.trans st2) (f1.trans f2) (v :: vs) (rvs_cons st1 st2 f2 hv hvs)
theorem fk_nil : FK X W [] eNil := ⟨_, pk_nil, fun B H σ ρ Q S post => post B H S Step.refl Fills.refl [] ⟨rfl, List.nodup_nil⟩⟩
theorem fk_cons {kws : List Keyword} {kpos : Pos} {nm : Option Str} (ha : FE X W e F) (hr : FK X W kws As) : FK X W (⟨nm, e, kpos⟩ :: kws) (eCons F As) := by
  obtain ⟨ta, pa, oa⟩ := ha.ex
  obtain ⟨tb, pb, ob⟩ := hr.ex
  refine ⟨_, pk_cons pa pb, fun B H σ ρ Q S post => ?_⟩
  refine oa B H σ ρ _ S (post.bind0 fun x ρ1 B1 H1 S1 st1 f1 post1 v hv => ?_)
  refine ob B1 H1 σ ρ1 _ S1 (post1.bind st1 f1 fun rs ρ2 B2 H2 S2 st2 f2 post2 vs hvs => ?_)
  exact post2 B2 H2 S2 (st1.trans st2) (f1.trans f2) (v :: vs) (rvs_cons st1 st2 f2 hv hvs)

/-! ### displays -/
def eTup (as : Rho → Rs (List RV)) : Rho → Rs RV := fun ρ => (as ρ).bind fun rs ρ1 => if rs.length ≤ 100000 then .ok (.d (.tup (rs.map (view ρ1)))) (frzs rs ρ1) else .err
def eLst (as : Rho → Rs (List RV)) : Rho → Rs RV := fun ρ => (as ρ).bind fun rs ρ1 => if rs.length ≤ 100000 then .ok (.own (.l (rs.map (view ρ1)))) (frzs rs ρ1) else .err
theorem rvl_len {K : PySem.W.Frag} {B H H0 : Hp} {σ : St} {ρ : Rho} : ∀ {rs : List RV} {vs : List V}, RVl K H0 B H σ ρ rs vs → vs.length = rs.length
  | [], vs, h => by rw [show vs = [] from h]; rfl
  | r :: rs, vs, ⟨v, ws, h1, h2, h3⟩ => by rw [h1, List.length_cons, List.length_cons, rvl_len h3]
theorem line_le {n : Nat} (h : n ≤ 100000) : n ≤ sizeLine := Nat.le_trans h (by decide)
theorem fe_tup {x1} (ha : FA X W es As) : FE X W (.Tuple es x1 pos) (eTup As) := by
  obtain ⟨ta, pa, oa⟩ := ha.ex
  refine ⟨_, pe_tup pa, fun B H σ ρ Q S post => ?_⟩
  refine oa B H σ ρ _ S (post.bind0 fun rs ρ1 B1 H1 S1 st1 f1 post1 vs hvs => ?_)
  split at post1
  · rename_i hl
    obtain ⟨B2, x2, S2, st2, f2, rp, _, _⟩ := takes S1 st1 hvs.1 hvs.2
    refine ⟨line_le (by rw [rvl_len hvs.1]; exact hl), fun p hp => ?_⟩
    have S3 := S2.newB (o := .tup vs) hp
    exact post1 _ _ S3 (st2.trans (Step.newB S2 hp)) (f1.trans f2) _ ⟨p, vs, rfl, SqT.of upd_same, RpL.up (Ex.new (S2.notNew hp)) rp⟩
  · exact post1.elim
theorem fe_lst (ha : FA X W es As) : FE X W (.List es pos) (eLst As) := by
  obtain ⟨ta, pa, oa⟩ := ha.ex
  refine ⟨_, pe_lst pa, fun B H σ ρ Q S post => ?_⟩
  refine oa B H σ ρ _ S (post.bind0 fun rs ρ1 B1 H1 S1 st1 f1 post1 vs hvs => ?_)
  split at post1
  · rename_i hl
    obtain ⟨B2, x2, S2, st2, f2, rp, _, _⟩ := takes S1 st1 hvs.1 hvs.2
    refine ⟨line_le (by rw [rvl_len hvs.1]; exact hl), fun p hp => ?_⟩
    exact post1 _ _ (S2.new hp) (st2.trans (Step.new S2 hp)) (f1.trans f2) _ ⟨rfl, ⟨p, vs, rfl, S2.notNew hp, upd_same, rp⟩, rfl, p, rfl, st1.dom p hp, S2.notOwn hp⟩
  · exact post1.elim

/-! ### + -/
def eAdd (a b : Rho → Rs RV) : Rho → Rs RV := fun ρ => (a ρ).bind fun x ρ1 => (b ρ1).bind fun y ρ2 => match view ρ2 x, view ρ2 y with
  | .lst xs, .lst ys => if xs.length + ys.length ≤ 100000 then .ok (.own (.l (xs ++ ys))) ρ2 else .err
  | .tup xs, .tup ys => if xs.length + ys.length ≤ 100000 ∧ xs ≠ [] ∧ ys ≠ [] then .ok (.d (.tup (xs ++ ys))) ρ2 else .err
  | u, v => match oAdd u v with
    | some d => .ok (.d d) ρ2
    | none => .err
theorem fe_add (ha : FE X W a A) (hb : FE X W b Bf) : FE X W (.BinOp a .Add b pos) (eAdd A Bf) := by
  obtain ⟨ta, tb, pa, pb, k⟩ := two ha hb (g := fun x y ρ2 => match view ρ2 x, view ρ2 y with
  | .lst xs, .lst ys => if xs.length + ys.length ≤ 100000 then .ok (.own (.l (xs ++ ys))) ρ2 else .err
  | .tup xs, .tup ys => if xs.length + ys.length ≤ 100000 ∧ xs ≠ [] ∧ ys ≠ [] then .ok (.d (.tup (xs ++ ys))) ρ2 else .err
  | u, v => match oAdd u v with
    | some d => .ok (.d d) ρ2
    | none => .err)
  refine ⟨_, pe_op (op_add.or (op_add_str.or (op_cat.or op_catT))) pa pb, fun B H σ ρ Q S post => ?_⟩
  refine k B H σ ρ Q _ S post fun x y ρ2 B2 H2 v w S2 st fl hv hw hne post2 => ?_
  split at post2
  · rename_i xs ys e1 e2
    split at post2
    · rename_i hl
      obtain ⟨p, vs, rfl, h1, h2⟩ := hv.items S2 e1
      obtain ⟨q, ws, rfl, h3, h4⟩ := hw.items S2 e2
      refine .inr (.inr (.inl ⟨p, q, vs, ws, rfl, rfl, h1, h3, line_le (by rw [h2.length, h4.length]; exact hl), fun r hr => ?_⟩))
      exact post2 _ _ (S2.new hr) (st.trans (Step.new S2 hr)) fl _ ⟨rfl, ⟨r, _, rfl, S2.notNew hr, upd_same, h2.append h4⟩, rfl, r, rfl, st.dom r hr, S2.notOwn hr⟩
    · exact post2.elim
  · rename_i xs ys e1 e2
    split at post2
    · rename_i hl
      obtain ⟨p, vs, rfl, h1, h2⟩ := hv.titems S2 e1
      obtain ⟨q, ws, rfl, h3, h4⟩ := hw.titems S2 e2
      have hvs : vs ≠ [] := by
        intro z
        have := h2.length
        rw [z] at this
        exact hl.2.1 (List.length_eq_zero_iff.mp this.symm)
      have hws : ws ≠ [] := by
        intro z
        have := h4.length
        rw [z] at this
        exact hl.2.2 (List.length_eq_zero_iff.mp this.symm)
      refine .inr (.inr (.inr ⟨p, q, vs, ws, rfl, rfl, h1, h3, hvs, line_le (by rw [h2.length, h4.length]; exact hl.1), fun z => absurd z hws, fun _ r hr => ?_⟩))
      exact post2 _ _ (S2.newB hr) (st.trans (Step.newB S2 hr)) fl _ ⟨r, _, rfl, SqT.of upd_same, RpL.up (Ex.new (S2.notNew hr)) (h2.append h4)⟩
    · exact post2.elim
  · cases e : oAdd (view ρ2 x) (view ρ2 y) with
    | none => rw [e] at post2; exact post2.elim
    | some d =>
      rw [e] at post2
      unfold oAdd at e
      split at e
      · rename_i i j e1 e2
        cases e
        have g1 := hv.view S2
        have g2 := hw.view S2
        rw [e1] at g1; rw [e2] at g2
        cases rp_int g1; cases rp_int g2
        exact .inl ⟨i, j, rfl, rfl, post2 _ _ S2 st fl _ rfl⟩
      · rename_i i j e1 e2
        split at e
        · rename_i hl
          cases e
          have g1 := hv.view S2
          have g2 := hw.view S2
          rw [e1] at g1; rw [e2] at g2
          cases rp_str g1; cases rp_str g2
          exact .inr (.inl ⟨i, j, rfl, rfl, line_le hl, post2 _ _ S2 st fl _ rfl⟩)
        · cases e
      · cases e

/-! ### subscripts -/
def eIx (a b : Rho → Rs RV) : Rho → Rs RV := fun ρ => (a ρ).bind fun x ρ1 => (b ρ1).bind fun y ρ2 => match view ρ2 y with
  | .int i => match view ρ2 x with
    | .str z => if z.length ≤ 100000 then match atI z.cps.toList i with
        | some c => .ok (.d (.str ⟨#[c]⟩)) ρ2
        | none => .err
      else .err
    | u => match u.items with
      | some xs => match atI xs i with
        | some d => .ok (.d d) ρ2
        | none => .err
      | none => .err
  | _ => .err
theorem atI_rp {K : PySem.W.Frag} {B : Hp} {ds : List D} {vs : List V} {i : Int} {d : D} (h : RpL K B ds vs) (e : atI ds i = some d) : ∃ v, atI vs i = some v ∧ Rp K B d v := by
  unfold atI at e ⊢
  rw [h.length]
  cases q : ixN ds.length i with
  | none => rw [q] at e; cases e
  | some j =>
    rw [q] at e
    exact h.getD' e
theorem RVr.seq {K : PySem.W.Frag} {B H H0 : Hp} {σ : St} {ρ : Rho} (S : SR K B H σ ρ) {r : RV} {v : V} {xs : List D} (h : RVr K H0 B H σ ρ r v) (e : (FP.view ρ r).items = some xs) : ∃ a vs, v = .ref a ∧ (SqL K H a vs ∨ SqT K H a vs) ∧ RpL K B xs vs := by
  cases q : FP.view ρ r with
  | lst ys =>
    rw [q] at e; cases e
    obtain ⟨a, vs, h1, h2, h3⟩ := h.items S q
    exact ⟨a, vs, h1, .inl (SqL.of h2), h3⟩
  | frz ys =>
    rw [q] at e; cases e
    obtain ⟨a, vs, h1, h2, h3⟩ := h.fitems S q
    exact ⟨a, vs, h1, .inl h2, h3⟩
  | tup ys =>
    rw [q] at e; cases e
    obtain ⟨a, vs, h1, h2, h3⟩ := h.titems S q
    exact ⟨a, vs, h1, .inr h2, h3⟩
  | _ => rw [q] at e; cases e
theorem fe_ix (ha : FE X W a A) (hb : FE X W b Bf) (hs : PlainIx b := by exact fun _ _ => rfl) : FE X W (.Subscript a b pos) (eIx A Bf) := by
  obtain ⟨ta, tb, pa, pb, k⟩ := two ha hb (g := fun x y ρ2 => match view ρ2 y with
  | .int i => match view ρ2 x with
    | .str z => if z.length ≤ 100000 then match atI z.cps.toList i with
        | some c => .ok (.d (.str ⟨#[c]⟩)) ρ2
        | none => .err
      else .err
    | u => match u.items with
      | some xs => match atI xs i with
        | some d => .ok (.d d) ρ2
        | none => .err
      | none => .err
  | _ => .err)
  refine ⟨_, pe_ix ix_seq pa pb hs, fun B H σ ρ Q S post => ?_⟩
  refine k B H σ ρ Q _ S post fun x y ρ2 B2 H2 v w S2 st fl hv hw _ post2 => ?_
  split at post2
  · rename_i i e1
    have g1 := hw.view S2
    rw [e1] at g1
    cases rp_int g1
    split at post2
    · rename_i z e2
      have g2 := hv.view S2
      rw [e2] at g2
      cases rp_str g2
      split at post2
      · rename_i hl
        split at post2
        · rename_i c e3
          exact .inr (.inr ⟨z, i, c, rfl, rfl, line_le hl, e3, post2 _ _ S2 st fl _ rfl⟩)
        · exact post2.elim
      · exact post2.elim
    · split at post2
      · rename_i xs e3
        split at post2
        · rename_i d e4
          obtain ⟨p, vs, rfl, hs', h3⟩ := hv.seq S2 e3
          obtain ⟨v', h5, h6⟩ := atI_rp h3 e4
          rcases hs' with hs' | hs'
          · exact .inl ⟨p, vs, i, v', rfl, rfl, hs', h5, post2 _ _ S2 st fl _ h6⟩
          · exact .inr (.inl ⟨p, vs, i, v', rfl, rfl, hs', h5, post2 _ _ S2 st fl _ h6⟩)
        · exact post2.elim
      · exact post2.elim
  · exact post2.elim

/-! ### unary, tests -/
def eNeg (a : Rho → Rs RV) : Rho → Rs RV := fun ρ => (a ρ).bind fun x ρ1 => match view ρ1 x with
  | .int i => .ok (.d (.int (-i))) ρ1
  | _ => .err
theorem fe_neg (ha : FE X W a A) : FE X W (.UnaryOp .USub a pos) (eNeg A) := by
  obtain ⟨ta, pa, oa⟩ := ha.ex
  refine ⟨_, pe_un un_neg pa, fun B H σ ρ Q S post => ?_⟩
  refine oa B H σ ρ _ S (post.bind0 fun x ρ1 B1 H1 S1 st1 f1 post1 v hv => ?_)
  split at post1
  · rename_i i e1
    have g1 := hv.view S1
    rw [e1] at g1
    cases rp_int g1
    exact ⟨i, rfl, post1 _ _ S1 st1 f1 _ rfl⟩
  · exact post1.elim
def D.tru : D → Option Bool
  | .non => some false
  | .bl b => some b
  | .int i => some (i != 0)
  | .str s => if s.length ≤ 100000 then some ((s.length : Int) != 0) else none
  | .tup xs => some !xs.isEmpty
  | .lst xs => some !xs.isEmpty
  | .frz xs => some !xs.isEmpty
  | .dct kvs => some !kvs.isEmpty
  | .ins _ _ => none
  | .exn _ _ _ _ => none
def tTru (a : Rho → Rs RV) : Rho → Rs Bool := fun ρ => (a ρ).bind fun x ρ1 => match (view ρ1 x).tru with
  | some k => .ok k ρ1
  | none => .err
theorem isE {ds : List D} {vs : List V} {K : PySem.W.Frag} {B : Hp} (h : RpL K B ds vs) : (!ds.isEmpty) = !vs.isEmpty := by
  cases ds with
  | nil => rw [show vs = [] from h]; rfl
  | cons d ds => obtain ⟨v, r, e, _⟩ := h; rw [e]; rfl
theorem isEK {ds : List (Key × D)} {vs : List (Key × V)} {K : PySem.W.Frag} {B : Hp} (h : RpK K B ds vs) : (!ds.isEmpty) = !vs.isEmpty := by
  cases ds with
  | nil => rw [show vs = [] from h]; rfl
  | cons d ds => obtain ⟨n, d⟩ := d; obtain ⟨v, r, e, _⟩ := h; rw [e]; rfl
theorem tru_rp {K : PySem.W.Frag} {H : Hp} : ∀ {d : D} {v : V} {k : Bool}, d.tru = some k → Rp K H d v → TruV K v H k
  | .non, _, _, e, h => by cases rp_non h; cases e; exact rfl
  | .bl _, _, _, e, h => by cases rp_bl h; cases e; exact rfl
  | .int _, _, _, e, h => by cases rp_int h; cases e; exact rfl
  | .str s, _, _, e, h => by
    cases rp_str h
    unfold D.tru at e
    dsimp only at e
    split at e
    · rename_i hl; cases e; exact ⟨line_le hl, rfl⟩
    · cases e
  | .tup xs, _, _, e, ⟨a, vs, h1, h2, h3⟩ => by subst h1; cases e; exact .inr (.inl ⟨vs, h2, isE h3⟩)
  | .lst xs, _, _, e, ⟨a, vs, h1, h2, h3⟩ => by subst h1; cases e; exact .inl ⟨vs, SqL.of h2, isE h3⟩
  | .frz xs, _, _, e, ⟨a, vs, h1, h2, h3⟩ => by subst h1; cases e; exact .inl ⟨vs, h2, isE h3⟩
  | .dct xs, _, _, e, ⟨a, vs, h1, h2, h3⟩ => by subst h1; cases e; exact .inr (.inr ⟨vs, h2, isEK h3⟩)
  | .ins _ _, _, _, e, _ => by cases e
  | .exn _ _ _ _, _, _, e, _ => by cases e
theorem ft_tru (ha : FE X W a A) (he : ∀ whole, isTrue a X.env whole = (do let v ← whole; standAt a.pos; holding [v] (truthy v)) := by exact fun _ => rfl) : FT X W a (tTru A) := by
  obtain ⟨ta, pa, oa⟩ := ha.ex
  refine ⟨_, pt_truth pa he, fun B H σ ρ Q S post => ?_⟩
  refine oa B H σ ρ _ S (post.bind0 fun x ρ1 B1 H1 S1 st1 f1 post1 v hv => ?_)
  split at post1
  · rename_i k e
    exact ⟨k, tru_rp e (hv.view S1), post1 _ _ S1 st1 f1⟩
  · exact post1.elim
variable {TA TB : Rho → Rs Bool} {rest : List Expr}
def tAndF (a b : Rho → Rs Bool) : Rho → Rs Bool := fun ρ => (a ρ).bind fun k ρ1 => if k then b ρ1 else .ok false ρ1
def tOrF (a b : Rho → Rs Bool) : Rho → Rs Bool := fun ρ => (a ρ).bind fun k ρ1 => if k then .ok true ρ1 else b ρ1
def tNotF (a : Rho → Rs Bool) : Rho → Rs Bool := fun ρ => (a ρ).bind fun k ρ1 => .ok (!k) ρ1
theorem fw_and1 (ha : FT X W a TA) : FW X W (.BoolOp .And [a] pos) TA := by
  obtain ⟨t, p, o⟩ := ha.ex
  exact ⟨_, pw_and1 p, o⟩
theorem fw_or1 (ha : FT X W a TA) : FW X W (.BoolOp .Or [a] pos) TA := by
  obtain ⟨t, p, o⟩ := ha.ex
  exact ⟨_, pw_or1 p, o⟩
theorem fw_and (ha : FT X W a TA) (hb : FW X W (.BoolOp .And (b :: rest) pos) TB) : FW X W (.BoolOp .And (a :: b :: rest) pos) (tAndF TA TB) := by
  obtain ⟨t, p, o⟩ := ha.ex
  obtain ⟨t', p', o'⟩ := hb.ex
  refine ⟨_, pw_and p p', fun B H σ ρ Q S post => ?_⟩
  refine o B H σ ρ _ S (post.bind0 fun k ρ1 B1 H1 S1 st1 f1 post1 => ?_)
  cases k with
  | true => exact o' B1 H1 σ ρ1 _ S1 (post1.shift st1 f1)
  | false => exact post1 B1 H1 S1 st1 f1
theorem fw_or (ha : FT X W a TA) (hb : FW X W (.BoolOp .Or (b :: rest) pos) TB) : FW X W (.BoolOp .Or (a :: b :: rest) pos) (tOrF TA TB) := by
  obtain ⟨t, p, o⟩ := ha.ex
  obtain ⟨t', p', o'⟩ := hb.ex
  refine ⟨_, pw_or p p', fun B H σ ρ Q S post => ?_⟩
  refine o B H σ ρ _ S (post.bind0 fun k ρ1 B1 H1 S1 st1 f1 post1 => ?_)
  cases k with
  | false => exact o' B1 H1 σ ρ1 _ S1 (post1.shift st1 f1)
  | true => exact post1 B1 H1 S1 st1 f1
theorem ft_w (h : FW X W a TA) : FT X W a TA := by
  obtain ⟨t, p, o⟩ := h.ex
  exact ⟨_, p.pt, o⟩
theorem ft_not (ha : FT X W a TA) : FT X W (.UnaryOp .Not a pos) (tNotF TA) := by
  obtain ⟨t, p, o⟩ := ha.ex
  refine ⟨_, pt_not p, fun B H σ ρ Q S post => ?_⟩
  exact o B H σ ρ _ S (post.bind0 fun k ρ1 B1 H1 S1 st1 f1 post1 => post1 B1 H1 S1 st1 f1)
/-- a op b op' c -/
def tChn (f f' : D → D → Option D) (a b c : Rho → Rs RV) : Rho → Rs Bool := fun ρ => (a ρ).bind fun x ρ1 => (b ρ1).bind fun y ρ2 => match f (view ρ2 x) (view ρ2 y) with
  | some (.bl true) => (c ρ2).bind fun z ρ3 => match f' (view ρ3 y) (view ρ3 z) with
    | some (.bl k) => .ok k ρ3
    | _ => .err
  | some (.bl false) => .ok false ρ2
  | _ => .err
theorem ft_chain {op op' : CmpOp} {f f' : D → D → Option D} (ho : Op2 X (compareOp op) f) (ho' : Op2 X (compareOp op') f') (ha : FE X W a A) (hb : FE X W b Bf) (hc : FE X W c Cf) (hm : lastMarks [op, op'] [b, c] = false := by rfl) :
    FT X W (.Compare a [op, op'] [b, c] pos) (tChn f f' A Bf Cf) := by
  obtain ⟨r, hr, hf⟩ := ho.ex
  obtain ⟨r', hr', hf'⟩ := ho'.ex
  obtain ⟨ta, pa, oa⟩ := ha.ex
  obtain ⟨tb, pb, ob⟩ := hb.ex
  obtain ⟨tc, pc, oc⟩ := hc.ex
  refine ⟨_, pt_chain hr hr' pa pb pc hm, fun B H σ ρ Q S post => ?_⟩
  refine oa B H σ ρ _ S (post.bind0 fun x ρ1 B1 H1 S1 st1 f1 post1 v hv => ?_)
  refine ob B1 H1 σ ρ1 _ S1 (post1.bind st1 f1 fun y ρ2 B2 H2 S2 st2 f2 post2 w hw => ?_)
  split at post2
  · rename_i e
    refine hf H2 v w _ _ _ _ ((hv.later st2 f2).view S2) (hw.view S2) e fun z hz => ⟨true, hz H2, ?_⟩
    refine oc B2 H2 σ ρ2 _ S2 (post2.bind (st1.trans st2) (f1.trans f2) fun z3 ρ3 B3 H3 S3 st3 f3 post3 u hu => ?_)
    split at post3
    · rename_i k e'
      exact hf' H3 w u _ _ _ _ ((hw.later st3 f3).view S3) (hu.view S3) e' fun z hz => ⟨k, hz H3, post3 _ _ S3 ((st1.trans st2).trans st3) ((f1.trans f2).trans f3)⟩
    · exact post3.elim
  · rename_i e
    exact hf H2 v w _ _ _ _ ((hv.later st2 f2).view S2) (hw.view S2) e fun z hz => ⟨false, hz H2, false, rfl, post2 _ _ S2 (st1.trans st2) (f1.trans f2)⟩
  · exact post2.elim
/-- a if t else b -/
def eIf (t : Rho → Rs Bool) (a b : Rho → Rs RV) : Rho → Rs RV := fun ρ => (t ρ).bind fun k ρ1 => if k then a ρ1 else b ρ1
theorem fe_if (hc : FT X W c TA) (ha : FE X W a A) (hb : FE X W b Bf) : FE X W (.IfExp c a b pos) (eIf TA A Bf) := by
  obtain ⟨t, p, o⟩ := hc.ex
  obtain ⟨ta, pa, oa⟩ := ha.ex
  obtain ⟨tb, pb, ob⟩ := hb.ex
  refine ⟨_, pe_ifExp p pa pb, fun B H σ ρ Q S post => ?_⟩
  refine o B H σ ρ _ S (post.bind0 fun k ρ1 B1 H1 S1 st1 f1 post1 => ?_)
  cases k with
  | true => exact oa B1 H1 σ ρ1 _ S1 ((post1.shift st1 f1).mono fun r ρ2 B2 H2 _ _ _ g v hv => g v (hv.h0 st1.dom))
  | false => exact ob B1 H1 σ ρ1 _ S1 ((post1.shift st1 f1).mono fun r ρ2 B2 H2 _ _ _ g v hv => g v (hv.h0 st1.dom))
/-- and, or, not as values: bools ahead -/
def eAndV (a b : Rho → Rs RV) : Rho → Rs RV := fun ρ => (a ρ).bind fun x ρ1 => match view ρ1 x with
  | .bl true => b ρ1
  | .bl false => .ok (.d (.bl false)) ρ1
  | _ => .err
def eOrV (a b : Rho → Rs RV) : Rho → Rs RV := fun ρ => (a ρ).bind fun x ρ1 => match view ρ1 x with
  | .bl false => b ρ1
  | .bl true => .ok (.d (.bl true)) ρ1
  | _ => .err
def eNotV (a : Rho → Rs RV) : Rho → Rs RV := fun ρ => (a ρ).bind fun x ρ1 => match view ρ1 x with
  | .bl k => .ok (.d (.bl !k)) ρ1
  | _ => .err
theorem fe_one {op} (h : FE X W a A) : FE X W (.BoolOp op [a] pos) A := by
  obtain ⟨t, p, o⟩ := h.ex
  exact ⟨_, pe_one p, o⟩
theorem fe_and (ha : FE X W a A) (hb : FE X W (.BoolOp .And (b :: rest) pos) Bf) : FE X W (.BoolOp .And (a :: b :: rest) pos) (eAndV A Bf) := by
  obtain ⟨ta, pa, oa⟩ := ha.ex
  obtain ⟨tb, pb, ob⟩ := hb.ex
  refine ⟨_, pe_and pa pb, fun B H σ ρ Q S post => ?_⟩
  refine oa B H σ ρ _ S (post.bind0 fun x ρ1 B1 H1 S1 st1 f1 post1 v hv => ?_)
  split at post1
  · rename_i e
    have g := hv.view S1
    rw [e] at g
    exact ⟨true, rp_bl g, ob B1 H1 σ ρ1 _ S1 ((post1.shift st1 f1).mono fun r ρ2 B2 H2 _ _ _ g v hv => g v (hv.h0 st1.dom))⟩
  · rename_i e
    have g := hv.view S1
    rw [e] at g
    exact ⟨false, rp_bl g, post1 _ _ S1 st1 f1 _ rfl⟩
  · exact post1.elim
theorem fe_or (ha : FE X W a A) (hb : FE X W (.BoolOp .Or (b :: rest) pos) Bf) : FE X W (.BoolOp .Or (a :: b :: rest) pos) (eOrV A Bf) := by
  obtain ⟨ta, pa, oa⟩ := ha.ex
  obtain ⟨tb, pb, ob⟩ := hb.ex
  refine ⟨_, pe_or pa pb, fun B H σ ρ Q S post => ?_⟩
  refine oa B H σ ρ _ S (post.bind0 fun x ρ1 B1 H1 S1 st1 f1 post1 v hv => ?_)
  split at post1
  · rename_i e
    have g := hv.view S1
    rw [e] at g
    exact ⟨false, rp_bl g, ob B1 H1 σ ρ1 _ S1 ((post1.shift st1 f1).mono fun r ρ2 B2 H2 _ _ _ g v hv => g v (hv.h0 st1.dom))⟩
  · rename_i e
    have g := hv.view S1
    rw [e] at g
    exact ⟨true, rp_bl g, post1 _ _ S1 st1 f1 _ rfl⟩
  · exact post1.elim
theorem fe_not (ha : FE X W a A) : FE X W (.UnaryOp .Not a pos) (eNotV A) := by
  obtain ⟨ta, pa, oa⟩ := ha.ex
  refine ⟨_, pe_not pa, fun B H σ ρ Q S post => ?_⟩
  refine oa B H σ ρ _ S (post.bind0 fun x ρ1 B1 H1 S1 st1 f1 post1 v hv => ?_)
  split at post1
  · rename_i k e
    have g := hv.view S1
    rw [e] at g
    exact ⟨k, rp_bl g, post1 _ _ S1 st1 f1 _ rfl⟩
  · exact post1.elim
/-! ### attributes -/
def eFld (C : Addr) (f : Str) (a : Rho → Rs RV) : Rho → Rs RV := fun ρ => (a ρ).bind fun x ρ1 => match view ρ1 x with
  | .ins C' fs => if C' = C then match fs.lookup f with
      | some d => .ok (.d d) ρ1
      | none => .err
    else .err
  | _ => .err
theorem fe_fld {C : Addr} {f : Str} (c : Cls X.K C) (n : NoAttr X.K C f) (ha : FE X W a A) (hb : attributeBase a f X.env (eval a X.env) = eval a X.env := by rfl) : FE X W (.Attribute a f pos) (eFld C f A) := by
  obtain ⟨ta, pa, oa⟩ := ha.ex
  refine ⟨_, pe_fld pa hb, fun B H σ ρ Q S post => ?_⟩
  refine oa B H σ ρ _ S (post.bind0 fun x ρ1 B1 H1 S1 st1 f1 post1 v hv => ?_)
  split at post1
  · rename_i C' fs e
    split at post1
    · rename_i hC
      subst hC
      split at post1
      · rename_i d hl
        obtain ⟨p, dx, vs, rfl, h1, h2⟩ := hv.fields S1 e
        obtain ⟨v', h3, h4⟩ := h2.lookup hl
        exact ⟨p, C', dx, vs, v', rfl, h1, c, n, h3, post1 _ _ S1 st1 f1 _ h4⟩
      · exact post1.elim
    · exact post1.elim
  · exact post1.elim
end
end FP
namespace FP
open PySem L2

/-! ## Statements -/
inductive Out where
  | err | nx (ρ : Rho) | rt (r : RV) (ρ : Rho) | bk (ρ : Rho) | ct (ρ : Rho) | exc (x : Exn) (ρ : Rho)
def Out.bind (x : Out) (f : Rho → Out) : Out := match x with
  | .nx ρ => f ρ
  | .err => .err
  | .rt r ρ => .rt r ρ
  | .bk ρ => .bk ρ
  | .ct ρ => .ct ρ
  | .exc x ρ => .exc x ρ
@[simp] theorem obind_nx (ρ : Rho) (f : Rho → Out) : (Out.nx ρ).bind f = f ρ := of_rfl rfl
@[simp] theorem obind_err (f : Rho → Out) : Out.err.bind f = .err := of_rfl rfl
@[simp] theorem obind_rt (r : RV) (ρ : Rho) (f : Rho → Out) : (Out.rt r ρ).bind f = .rt r ρ := of_rfl rfl
@[simp] theorem obind_bk (ρ : Rho) (f : Rho → Out) : (Out.bk ρ).bind f = .bk ρ := of_rfl rfl
@[simp] theorem obind_ct (ρ : Rho) (f : Rho → Out) : (Out.ct ρ).bind f = .ct ρ := of_rfl rfl
@[simp] theorem obind_exc (x : Exn) (ρ : Rho) (f : Rho → Out) : (Out.exc x ρ).bind f = .exc x ρ := of_rfl rfl
/-- a result, then a statement -/
def Rs.thn {α : Type} (x : Rs α) (f : α → Rho → Out) : Out := match x with
  | .err => .err
  | .ok a ρ => f a ρ
  | .exc x ρ => .exc x ρ
@[simp] theorem thn_err {α : Type} (f : α → Rho → Out) : (Rs.err : Rs α).thn f = .err := of_rfl rfl
@[simp] theorem thn_ok {α : Type} (a : α) (ρ : Rho) (f : α → Rho → Out) : (Rs.ok a ρ).thn f = f a ρ := of_rfl rfl
@[simp] theorem thn_exc {α : Type} (x : Exn) (ρ : Rho) (f : α → Rho → Out) : (Rs.exc x ρ : Rs α).thn f = .exc x ρ := of_rfl rfl

def PostS (K : PySem.W.Frag) (W : WX) (B H : Hp) (σ : St) (ρ : Rho) (D : Ends) : Out → Prop
  | .err => False
  | .nx ρ' => ∀ B' H' σ', SR K B' H' σ' ρ' → Step B H σ ρ B' H' σ' ρ' → D.nx σ' H'
  | .bk ρ' => ∀ B' H' σ', SR K B' H' σ' ρ' → Step B H σ ρ B' H' σ' ρ' → D.bk σ' H'
  | .ct ρ' => ∀ B' H' σ', SR K B' H' σ' ρ' → Step B H σ ρ B' H' σ' ρ' → D.ct σ' H'
  | .rt r ρ' => ∀ B' H' σ' v, SR K B' H' σ' ρ' → Step B H σ ρ B' H' σ' ρ' → RVr K H B' H' σ' ρ' r v → D.rt v H'
  | .exc x ρ' => ∀ B' H' σ' cls d, SR K B' H' σ' ρ' → Step B H σ ρ B' H' σ' ρ' → XR K H B' H' x cls d → W cls d σ' H'
structure FS (X : Cx) (W : WX) (st : Stmt) (F : Rho → Out) : Prop where
  ex : ∃ ts, PS X st ts ∧ ∀ B H σ ρ D, SR X.K B H σ ρ → PostS X.K W B H σ ρ D (F ρ) → ts D σ H
structure FB (X : Cx) (W : WX) (st : List Stmt) (F : Rho → Out) : Prop where
  ex : ∃ ts, PSs X st ts ∧ ∀ B H σ ρ D, SR X.K B H σ ρ → PostS X.K W B H σ ρ D (F ρ) → ts D σ H

section
variable {K : PySem.W.Frag} {W : WX} {B H B0 H0 : Hp} {σ σ0 : St} {ρ ρ0 : Rho} {En : Ends}
theorem PostS.shift {x : Out} (post : PostS K W B0 H0 σ0 ρ0 En x) (st : Step B0 H0 σ0 ρ0 B H σ ρ) : PostS K W B H σ ρ En x := by
  cases x with
  | err => exact post
  | nx ρ' => exact fun B1 H1 σ1 S1 st1 => post B1 H1 σ1 S1 (st.trans st1)
  | bk ρ' => exact fun B1 H1 σ1 S1 st1 => post B1 H1 σ1 S1 (st.trans st1)
  | ct ρ' => exact fun B1 H1 σ1 S1 st1 => post B1 H1 σ1 S1 (st.trans st1)
  | rt r ρ' => exact fun B1 H1 σ1 v S1 st1 hv => post B1 H1 σ1 v S1 (st.trans st1) (hv.h0 st.dom)
  | exc x ρ' => exact fun B1 H1 σ1 cls d S1 st1 xr => post B1 H1 σ1 cls d S1 (st.trans st1) (xr.h0 st.dom)
/-- an expression ahead of a statement's rest -/
theorem PostS.ahead {α : Type} {x : Rs α} {f : α → Rho → Out} {g1 : Hp → Hp → Rho → α → Prop} (post : PostS K W B H σ ρ En (x.thn f))
    (k : ∀ a ρ1 B1 H1, SR K B1 H1 σ ρ1 → Step B H σ ρ B1 H1 σ ρ1 → Fills ρ ρ1 → PostS K W B H σ ρ En (f a ρ1) → g1 B1 H1 ρ1 a) : Post K W B H σ ρ g1 x := by
  cases x with
  | err => exact post
  | exc x ρ' => exact fun B1 H1 cls d S1 st1 xr => post B1 H1 σ cls d S1 st1 xr
  | ok a ρ1 => exact fun B1 H1 S1 st1 f1 => k a ρ1 B1 H1 S1 st1 f1 post
/-- .. from a later start -/
theorem PostS.ahead' {α : Type} {x : Rs α} {f : α → Rho → Out} {g1 : Hp → Hp → Rho → α → Prop} (post : PostS K W B0 H0 σ0 ρ0 En (x.thn f)) (st : Step B0 H0 σ0 ρ0 B H σ ρ)
    (k : ∀ a ρ1 B1 H1, SR K B1 H1 σ ρ1 → Step B H σ ρ B1 H1 σ ρ1 → Fills ρ ρ1 → PostS K W B0 H0 σ0 ρ0 En (f a ρ1) → g1 B1 H1 ρ1 a) : Post K W B H σ ρ g1 x := by
  cases x with
  | err => exact post
  | exc x ρ' => exact fun B1 H1 cls d S1 st1 xr => post B1 H1 σ cls d S1 (st.trans st1) (xr.h0 st.dom)
  | ok a ρ1 => exact fun B1 H1 S1 st1 f1 => k a ρ1 B1 H1 S1 st1 f1 post
theorem PostS.seq {x : Out} {f : Rho → Out} (post : PostS K W B H σ ρ En (x.bind f)) {nx : St → Hp → Prop}
    (k : ∀ ρ' B' H' σ', SR K B' H' σ' ρ' → Step B H σ ρ B' H' σ' ρ' → PostS K W B' H' σ' ρ' En (f ρ') → nx σ' H') : PostS K W B H σ ρ { En with nx := nx } x := by
  cases x with
  | err => exact post
  | nx ρ' => exact fun B1 H1 σ1 S1 st1 => k ρ' B1 H1 σ1 S1 st1 (PostS.shift (x := f ρ') post st1)
  | bk ρ' => exact post
  | ct ρ' => exact post
  | rt r ρ' => exact post
  | exc x ρ' => exact post

/-! ### slots are set -/
theorem setP {d : D} {v : V} {i : Nat} (S : SR K B H σ ρ) (h : Rp K B d v) : SR K B H (σ.set i (some v)) (ρ.set i (some (.p d))) where
  ex := S.ex
  len := by rw [List.length_set, List.length_set]; exact S.len
  slot := fun j sv e => by
    by_cases hj : i = j
    · subst hj
      have hl : i < ρ.length := by
        have := (List.getElem?_eq_some_iff.mp e).1
        rwa [List.length_set] at this
      rw [List.getElem?_set_self hl] at e
      cases e
      exact ⟨v, List.getElem?_set_self (by rw [S.len]; exact hl), h⟩
    · rw [List.getElem?_set_ne hj] at e ⊢
      exact S.slot j sv e
  dis := fun j k sv sv' a e1 o1 e2 o2 e3 e4 => by
    by_cases hj : i = j
    · subst hj
      have hl : i < ρ.length := by
        have := (List.getElem?_eq_some_iff.mp e1).1
        rwa [List.length_set] at this
      rw [List.getElem?_set_self hl] at e1
      cases e1; cases o1
    · by_cases hk : i = k
      · subst hk
        have hl : i < ρ.length := by
          have := (List.getElem?_eq_some_iff.mp e2).1
          rwa [List.length_set] at this
        rw [List.getElem?_set_self hl] at e2
        cases e2; cases o2
      · rw [List.getElem?_set_ne hj] at e1 e3
        rw [List.getElem?_set_ne hk] at e2 e4
        exact S.dis j k sv sv' a e1 o1 e2 o2 e3 e4
theorem setP_own {d : D} {v : V} {i : Nat} {a : Addr} (h : OwnAt (σ.set i (some v)) (ρ.set i (some (.p d))) a) : OwnAt σ ρ a := by
  obtain ⟨j, sv, e1, o1, e2⟩ := h
  by_cases hj : i = j
  · subst hj
    have hl : i < ρ.length := by
      have := (List.getElem?_eq_some_iff.mp e1).1
      rwa [List.length_set] at this
    rw [List.getElem?_set_self hl] at e1
    cases e1; cases o1
  · rw [List.getElem?_set_ne hj] at e1 e2
    exact ⟨j, sv, e1, o1, e2⟩
theorem setO {sv : SV} {a : Addr} {i : Nat} (S : SR K B H σ ρ) (h : SVr K B H sv (.ref a)) (hn : ¬ OwnAt σ ρ a) : SR K B H (σ.set i (some (.ref a))) (ρ.set i (some sv)) where
  ex := S.ex
  len := by rw [List.length_set, List.length_set]; exact S.len
  slot := fun j sv' e => by
    by_cases hj : i = j
    · subst hj
      have hl : i < ρ.length := by
        have := (List.getElem?_eq_some_iff.mp e).1
        rwa [List.length_set] at this
      rw [List.getElem?_set_self hl] at e
      cases e
      exact ⟨_, List.getElem?_set_self (by rw [S.len]; exact hl), h⟩
    · rw [List.getElem?_set_ne hj] at e ⊢
      exact S.slot j sv' e
  dis := fun j k sv1 sv2 b e1 o1 e2 o2 e3 e4 => by
    by_cases hj : i = j
    · by_cases hk : i = k
      · exact hj.symm.trans hk
      · exfalso
        subst hj
        have hl : i < ρ.length := by
          have := (List.getElem?_eq_some_iff.mp e1).1
          rwa [List.length_set] at this
        rw [List.getElem?_set_self (by rw [S.len]; exact hl)] at e3
        cases e3
        rw [List.getElem?_set_ne hk] at e2 e4
        exact hn ⟨k, sv2, e2, o2, e4⟩
    · by_cases hk : i = k
      · exfalso
        subst hk
        have hl : i < ρ.length := by
          have := (List.getElem?_eq_some_iff.mp e2).1
          rwa [List.length_set] at this
        rw [List.getElem?_set_self (by rw [S.len]; exact hl)] at e4
        cases e4
        rw [List.getElem?_set_ne hj] at e1 e3
        exact hn ⟨j, sv1, e1, o1, e3⟩
      · rw [List.getElem?_set_ne hj] at e1 e3
        rw [List.getElem?_set_ne hk] at e2 e4
        exact S.dis j k sv1 sv2 b e1 o1 e2 o2 e3 e4
theorem setO_own {sv : SV} {a b : Addr} {i : Nat} (h : OwnAt (σ.set i (some (.ref a))) (ρ.set i (some sv)) b) : OwnAt σ ρ b ∨ b = a := by
  obtain ⟨j, sv', e1, o1, e2⟩ := h
  by_cases hj : i = j
  · subst hj
    have hl : i < σ.length := by
      have := (List.getElem?_eq_some_iff.mp e2).1
      rwa [List.length_set] at this
    rw [List.getElem?_set_self hl] at e2
    cases e2
    exact .inr rfl
  · rw [List.getElem?_set_ne hj] at e1 e2
    exact .inl ⟨j, sv', e1, o1, e2⟩
/-- a result bound to a slot -/
def bindR (i : Nat) (r : RV) (ρ : Rho) : Rho := match r with
  | .d d => ρ.set i (some (.p d))
  | .own sv => ρ.set i (some sv)
  | .slot j => (frz (.slot j) ρ).set i (some (.p (view ρ (.slot j))))
theorem bindR_ok {r : RV} {v : V} {i : Nat} (S : SR K B H σ ρ) (st : Step B0 H0 σ0 ρ0 B H σ ρ) (h : RVr K H0 B H σ ρ r v) :
    ∃ B', SR K B' H (σ.set i (some v)) (bindR i r ρ) ∧ Step B0 H0 σ0 ρ0 B' H (σ.set i (some v)) (bindR i r ρ) := by
  cases r with
  | d d => exact ⟨B, setP S h, st.own fun _ z => setP_own z⟩
  | own sv =>
    obtain ⟨h1, h2, _, a, h3, h4, h5⟩ := h
    subst h3
    refine ⟨B, setO S h2 h5, st.bb, fun b o e1 e2 e3 => ?_, st.dom, fun c r e1 e2 e3 => ?_⟩
    · obtain ⟨g1, g2, g3⟩ := st.fr b o e1 e2 e3
      refine ⟨g1, g2, fun z => ?_⟩
      rcases setO_own z with z | z
      · exact g3 z
      · subst z; rw [h4] at e1; cases e1
    · obtain ⟨g1, g2, g3⟩ := st.gh c r e1 e2 e3
      refine ⟨g1, g2, fun z => ?_⟩
      rcases setO_own z with z | z
      · exact g3 z
      · subst z; exact e2 h4
  | slot j =>
    obtain ⟨h1, sv, h2, nt⟩ := h
    obtain ⟨v', e1, e2⟩ := S.slot j sv h2
    rw [h1] at e1; cases e1
    -- freeze the slot: its value stays where it was
    have key : ∃ B', SR K B' H σ (frz (.slot j) ρ) ∧ Step B0 H0 σ0 ρ0 B' H σ (frz (.slot j) ρ) ∧ Rp K B' (view ρ (.slot j)) v := by
      obtain ⟨B1, x1, S1, st1, rp, _⟩ := take1 (Bs := B) (Hs := H) (ρs := ρ) S Step.refl (r := .slot j) (v := v) ⟨h1, sv, h2, nt⟩
      exact ⟨B1, S1, st.trans st1, rp⟩
    obtain ⟨B1, S1, st1, rp⟩ := key
    exact ⟨B1, setP S1 rp, st1.own fun _ z => setP_own z⟩
/-- a slot's cell is changed -/
theorem mutS {sv sv' : SV} {a : Addr} {i : Nat} {o : HO} (S : SR K B H σ ρ) (h1 : ρ[i]? = some (some sv)) (ho : sv.owned = true) (h2 : σ[i]? = some (some (.ref a))) (h3 : SVr K B (upd H a o) sv' (.ref a)) (ho' : sv'.owned = true) :
    SR K B (upd H a o) σ (ρ.set i (some sv')) ∧ Step B H σ ρ B (upd H a o) σ (ρ.set i (some sv')) := by
  have own_a : OwnAt σ ρ a := ⟨i, sv, h1, ho, h2⟩
  have hl : i < ρ.length := (List.getElem?_eq_some_iff.mp h1).1
  obtain ⟨v, e1, e2⟩ := S.slot i sv h1
  rw [h2] at e1; cases e1
  obtain ⟨a', u, q1, q2, q3⟩ := e2.cell ho
  cases q1
  have hB : ∀ b, B b ≠ none → b ≠ a := fun b h z => by subst z; exact h q3
  refine ⟨⟨fun b w e => ?_, by rw [List.length_set]; exact S.len, fun j sv1 e => ?_, fun j k sv1 sv2 b g1 o1 g2 o2 g3 g4 => ?_⟩, ⟨Ex.refl _, fun b w g1 g2 g3 => ?_, fun b hb => ?_, fun c r g1 _ g3 => ⟨g1, upd_ne (hB c (by rw [g1]; simp)), fun ⟨j, sv1, f1, f2, f3⟩ => ?_⟩⟩⟩
  · rw [upd_ne (hB b (by rw [e]; simp))]; exact S.ex b w e
  · by_cases hj : i = j
    · subst hj
      rw [List.getElem?_set_self hl] at e; cases e
      exact ⟨_, h2, h3⟩
    · rw [List.getElem?_set_ne hj] at e
      obtain ⟨v', f1, f2⟩ := S.slot j sv1 e
      refine ⟨v', f1, f2.later (Ex.refl _) (fun ow b w hb g1 g2 => ⟨?_, g2⟩) fun _ b _ c f1 _ => ⟨f1, upd_ne (hB c (by rw [f1]; simp))⟩⟩
      have hne : b ≠ a := by
        rintro rfl
        exact hj (S.dis i j sv sv1 b h1 ho e ow h2 (by rw [f1, hb]))
      rw [upd_ne hne]; exact g1
  · by_cases hj : i = j
    · by_cases hk : i = k
      · exact hj.symm.trans hk
      · subst hj
        rw [List.getElem?_set_ne hk] at g2
        exact S.dis i k sv sv2 b h1 ho g2 o2 g3 g4
    · by_cases hk : i = k
      · subst hk
        rw [List.getElem?_set_ne hj] at g1
        exact S.dis j i sv1 sv b g1 o1 h1 ho g3 g4
      · rw [List.getElem?_set_ne hj] at g1
        rw [List.getElem?_set_ne hk] at g2
        exact S.dis j k sv1 sv2 b g1 o1 g2 o2 g3 g4
  · have hne : b ≠ a := by rintro rfl; exact g3 own_a
    refine ⟨by rw [upd_ne hne]; exact g1, g2, fun ⟨j, sv1, f1, f2, f3⟩ => ?_⟩
    by_cases hj : i = j
    · subst hj; exact g3 ⟨i, sv, h1, ho, f3⟩
    · rw [List.getElem?_set_ne hj] at f1
      exact g3 ⟨j, sv1, f1, f2, f3⟩
  · by_cases hne : b = a
    · subst hne; rw [upd_same] at hb; cases hb
    · rw [upd_ne hne] at hb; exact hb
  · by_cases hj : i = j
    · subst hj; exact g3 ⟨i, sv, h1, ho, f3⟩
    · rw [List.getElem?_set_ne hj] at f1
      exact g3 ⟨j, sv1, f1, f2, f3⟩
end

section
variable {X : Cx} {W : WX} {pos : Pos} {e : Expr} {F : Rho → Rs RV} {st : Stmt} {sts : List Stmt} {G G' : Rho → Out}
/-! ### blocks -/
def sNil : Rho → Out := fun ρ => .nx ρ
def sSeq (f g : Rho → Out) : Rho → Out := fun ρ => (f ρ).bind g
theorem fb_nil : FB X W [] sNil := ⟨_, pss_nil, fun B H σ ρ D S post => post B H σ S Step.refl⟩
theorem fb_one (h : FS X W st G) : FB X W [st] G := by
  obtain ⟨t, p, o⟩ := h.ex
  exact ⟨_, pss_one p, o⟩
theorem fb_cons (h : FS X W st G) (h' : FB X W sts G') : FB X W (st :: sts) (sSeq G G') := by
  obtain ⟨t, p, o⟩ := h.ex
  obtain ⟨t', p', o'⟩ := h'.ex
  refine ⟨_, pss_cons p p', fun B H σ ρ D S post => ?_⟩
  exact o B H σ ρ _ S (post.seq fun ρ' B' H' σ' S' st' post' => o' B' H' σ' ρ' D S' post')
def sErr : Rho → Out := fun _ => .err
theorem fs_err : FS X W st sErr := ⟨_, ps_never, fun B H σ ρ D S post => post.elim⟩
theorem fb_err : FB X W sts sErr := ⟨_, pss_never, fun B H σ ρ D S post => post.elim⟩
theorem fs_pass : FS X W (.Pass pos) sNil := ⟨_, ps_pass, fun B H σ ρ D S post => post B H σ S Step.refl⟩
def sBrk : Rho → Out := fun ρ => .bk ρ
def sCnt : Rho → Out := fun ρ => .ct ρ
theorem fs_break : FS X W (.Break pos) sBrk := ⟨_, ps_break, fun B H σ ρ D S post => post B H σ S Step.refl⟩
theorem fs_continue : FS X W (.Continue pos) sCnt := ⟨_, ps_continue, fun B H σ ρ D S post => post B H σ S Step.refl⟩
theorem fs_doc {x j pos'} : FS X W (.Expr (.Constant (.str x) j pos) pos') sNil := ⟨_, ps_doc, fun B H σ ρ D S post => post B H σ S Step.refl⟩
def sDrop (f : Rho → Rs RV) : Rho → Out := fun ρ => (f ρ).thn fun _ ρ1 => .nx ρ1
theorem fs_expr (h : FE X W e F) (hs : swapsWith e none pos.line X.env = pure false := by rfl) : FS X W (.Expr e pos) (sDrop F) := by
  obtain ⟨t, p, o⟩ := h.ex
  refine ⟨_, ps_expr p hs, fun B H σ ρ D S post => ?_⟩
  exact o B H σ ρ _ S (post.ahead fun r ρ1 B1 H1 S1 st1 f1 post1 v hv => post1 B1 H1 σ S1 st1)
def sRet (f : Rho → Rs RV) : Rho → Out := fun ρ => (f ρ).thn fun r ρ1 => .rt r ρ1
theorem fs_ret (h : FE X W e F) : FS X W (.Return (some e) pos) (sRet F) := by
  obtain ⟨t, p, o⟩ := h.ex
  refine ⟨_, ps_ret p, fun B H σ ρ D S post => ?_⟩
  exact o B H σ ρ _ S (post.ahead fun r ρ1 B1 H1 S1 st1 f1 post1 v hv => post1 B1 H1 σ v S1 st1 hv)
def sRetN : Rho → Out := fun ρ => .rt (.d .non) ρ
theorem fs_retN : FS X W (.Return none pos) sRetN := ⟨_, ps_retN, fun B H σ ρ D S post => post B H σ .non S Step.refl rfl⟩
def sIf (t : Rho → Rs Bool) (f g : Rho → Out) : Rho → Out := fun ρ => (t ρ).thn fun k ρ1 => if k then f ρ1 else g ρ1
theorem fs_if {c : Expr} {a b : List Stmt} {T : Rho → Rs Bool} (hc : FT X W c T) (ha : FB X W a G) (hb : FB X W b G') : FS X W (.If c a b pos) (sIf T G G') := by
  obtain ⟨t, p, o⟩ := hc.ex
  obtain ⟨ta, pa, oa⟩ := ha.ex
  obtain ⟨tb, pb, ob⟩ := hb.ex
  refine ⟨_, ps_if p pa pb, fun B H σ ρ D S post => ?_⟩
  refine o B H σ ρ _ S (post.ahead fun k ρ1 B1 H1 S1 st1 f1 post1 => ?_)
  cases k with
  | true => exact oa B1 H1 σ ρ1 D S1 (post1.shift st1)
  | false => exact ob B1 H1 σ ρ1 D S1 (post1.shift st1)
/-! ### assignments -/
def sSet (i : Nat) (f : Rho → Rs RV) : Rho → Out := fun ρ => (f ρ).thn fun r ρ1 => .nx (bindR i r ρ1)
theorem set_sem {te : TE} {i : Nat} (o : ∀ B H σ ρ Q, SR X.K B H σ ρ → Post X.K W B H σ ρ (fun B' H' ρ' r => ∀ v, RVr X.K H B' H' σ ρ' r v → Q v H') (F ρ) → te σ H Q) :
    ∀ B H σ ρ D, SR X.K B H σ ρ → PostS X.K W B H σ ρ D (sSet i F ρ) → tAsg te (gName i) D σ H := fun B H σ ρ D S post => by
  refine o B H σ ρ _ S (post.ahead fun r ρ1 B1 H1 S1 st1 f1 post1 v hv => ?_)
  obtain ⟨B2, S2, st2⟩ := bindR_ok (i := i) S1 st1 hv
  exact post1 B2 H1 _ S2 st2
theorem fs_set {i : Nat} {x : Str} {pos' : Pos} (h : FE X W e F) (hN : X.N.Nodup) (hi : X.N[i]? = some x) (hx : Loc X.env.scope x) (hs : swapsWith e (some (.Name x pos')) pos.line X.env = pure false := by rfl)
    (hf : X.fn x = true ∨ X.env.scope.names.lookup x = some .local := by first | exact .inl rfl | exact .inr rfl | assumption) : FS X W (.Assign [.Name x pos'] e pos) (sSet i F) := by
  obtain ⟨t, p, o⟩ := h.ex
  exact ⟨_, ps_set hN hi hx p hs hf, set_sem o⟩
/-- x op= e, ints and texts: the slot's data -/
def sAug (i : Nat) (f : D → D → Option D) (a : Rho → Rs RV) : Rho → Out := fun ρ => match ρ[i]? with
  | some (some (.p d)) => (a ρ).thn fun r ρ1 => match f d (view ρ1 r) with
    | some d' => .nx (ρ1.set i (some (.p d')))
    | none => .err
  | _ => .err
theorem fs_aug {i : Nat} {x : Str} {pos' : Pos} {op : Operator} {f : D → D → Option D} (ho : Op2 X (inplaceOp op) f) (h : FE X W e F) (hN : X.N.Nodup) (hi : X.N[i]? = some x) (hx : Loc X.env.scope x)
    (hf : X.fn x = true ∨ X.env.scope.names.lookup x = some .local := by first | exact .inl rfl | exact .inr rfl | assumption) : FS X W (.AugAssign (.Name x pos') op e pos) (sAug i f F) := by
  obtain ⟨r, hr, hf'⟩ := ho.ex
  obtain ⟨t, p, o⟩ := h.ex
  refine ⟨_, ps_aug hN hi hx p (ti := r) hr hf, fun B H σ ρ D S post => ?_⟩
  unfold sAug at post
  split at post
  · rename_i d e1
    obtain ⟨v, h1, h2⟩ := S.slot i _ e1
    refine ⟨v, h1, ?_⟩
    refine o B H σ ρ _ S (post.ahead fun y ρ1 B1 H1 S1 st1 f1 post1 w hw => ?_)
    split at post1
    · rename_i d' e2
      refine hf' H1 v w d _ d' _ (Rp.up (st1.bb.trans S1.ex) h2) (hw.view S1) e2 fun z hz => ?_
      exact post1 B1 H1 _ (setP S1 (hz _)) (st1.own fun _ z => setP_own z)
    · exact post1.elim
  · exact post.elim
/-! ### targets -/
/-- but for the slots vs nothing is told otherwise -/
def Outs (vs : List Nat) (σ σ' : St) : Prop := σ'.length = σ.length ∧ ∀ j, j ∉ vs → σ'[j]? = σ[j]?
structure FG (X : Cx) (tg : Expr) (G : D → Rho → Option Rho) (vs : List Nat) : Prop where
  ex : ∃ t, PG X tg t ∧ ∀ B H σ ρ d v (Q : St → Hp → Prop), SR X.K B H σ ρ → Rp X.K B d v → (∃ ρ', G d ρ = some ρ' ∧ ∀ σ', SR X.K B H σ' ρ' → (∀ a, OwnAt σ' ρ' a → OwnAt σ ρ a) → Outs vs σ σ' → Q σ' H) → t v σ H Q
  out : ∀ d ρ ρ', G d ρ = some ρ' → ∀ j, j ∉ vs → ρ'[j]? = ρ[j]?
structure FGs (X : Cx) (tg : List Expr) (G : List D → Rho → Option Rho) (vs : List Nat) : Prop where
  ex : ∃ t, PGs X tg t ∧ ∀ B H σ ρ d v (Q : St → Hp → Prop), SR X.K B H σ ρ → RpL X.K B d v → (∃ ρ', G d ρ = some ρ' ∧ ∀ σ', SR X.K B H σ' ρ' → (∀ a, OwnAt σ' ρ' a → OwnAt σ ρ a) → Outs vs σ σ' → Q σ' H) → t v σ H Q
  out : ∀ d ρ ρ', G d ρ = some ρ' → ∀ j, j ∉ vs → ρ'[j]? = ρ[j]?
def gN (i : Nat) : D → Rho → Option Rho := fun d ρ => some (ρ.set i (some (.p d)))
theorem fg_name {i : Nat} {x : Str} (hN : X.N.Nodup) (hi : X.N[i]? = some x) (hx : Loc X.env.scope x) (hf : X.fn x = true ∨ X.env.scope.names.lookup x = some .local := by first | exact .inl rfl | exact .inr rfl | assumption) : FG X (.Name x pos) (gN i) [i] :=
  ⟨⟨_, pg_name hN hi hx hf, fun B H σ ρ d v Q S h ⟨ρ', e, k⟩ => by
    cases e
    exact k _ (setP S h) (fun a z => setP_own z) ⟨List.length_set, fun j hj => List.getElem?_set_ne (fun z => hj (by simp [z]))⟩⟩, fun d ρ ρ' e j hj => by
    cases e
    exact List.getElem?_set_ne (fun z => hj (by simp [z]))⟩
def gsNil : List D → Rho → Option Rho := fun ds ρ => match ds with
  | [] => some ρ
  | _ => none
def gsCons (g : D → Rho → Option Rho) (gs : List D → Rho → Option Rho) : List D → Rho → Option Rho := fun ds ρ => match ds with
  | [] => none
  | d :: r => (g d ρ).bind (gs r)
theorem fgs_nil : FGs X [] gsNil [] := ⟨⟨_, pgs_nil, fun B H σ ρ d v Q S h ⟨ρ', e, k⟩ => by
  cases d with
  | nil => cases e; exact ⟨h, k _ S (fun _ z => z) ⟨rfl, fun _ _ => rfl⟩⟩
  | cons _ _ => cases e⟩, fun d ρ ρ' e j _ => by
  cases d with
  | nil => cases e; rfl
  | cons _ _ => cases e⟩
theorem fgs_cons {es : List Expr} {g : D → Rho → Option Rho} {gs : List D → Rho → Option Rho} {vs ws : List Nat} (h1 : FG X e g vs) (h2 : FGs X es gs ws)
    (hs : (assignEach (e :: es) X.env).map (·.2) = assign e X.env :: (assignEach es X.env).map (·.2) := by rfl) : FGs X (e :: es) (gsCons g gs) (vs ++ ws) := by
  obtain ⟨t, p, o⟩ := h1.ex
  obtain ⟨t', p', o'⟩ := h2.ex
  refine ⟨⟨_, pgs_cons p p' hs, fun B H σ ρ d v Q S h ⟨ρ', eq, k⟩ => ?_⟩, fun d ρ ρ' eq j hj => ?_⟩
  rotate_left
  · cases d with
    | nil => cases eq
    | cons d ds =>
      have eq' : (g d ρ).bind (gs ds) = some ρ' := eq
      cases eg : g d ρ with
      | none => rw [eg] at eq'; cases eq'
      | some ρ1 =>
        rw [eg] at eq'
        exact (h2.out ds ρ1 ρ' eq' j fun z => hj (List.mem_append_right _ z)).trans (h1.out d ρ ρ1 eg j fun z => hj (List.mem_append_left _ z))
  cases d with
  | nil => cases eq
  | cons d ds =>
    obtain ⟨w, r, e1, e2, e3⟩ := h
    have eq' : (g d ρ).bind (gs ds) = some ρ' := eq
    cases eg : g d ρ with
    | none => rw [eg] at eq'; cases eq'
    | some ρ1 =>
      rw [eg] at eq'
      refine ⟨w, r, e1, o B H σ ρ d w _ S e2 ⟨ρ1, eg, fun σ1 S1 own1 out1 => ?_⟩⟩
      exact o' B H σ1 ρ1 ds r Q S1 e3 ⟨ρ', eq', fun σ2 S2 own2 out2 => k σ2 S2 (fun a z => own1 a (own2 a z)) ⟨out2.1.trans out1.1, fun j hj => (out2.2 j fun z => hj (List.mem_append_right _ z)).trans (out1.2 j fun z => hj (List.mem_append_left _ z))⟩⟩
def gT (n : Nat) (gs : List D → Rho → Option Rho) : D → Rho → Option Rho := fun d ρ => match d with
  | .tup xs => if xs.length = n then gs xs ρ else none
  | _ => none
theorem fg_tup {es : List Expr} {k : Nat} {gs : List D → Rho → Option Rho} {n : Nat} {vs : List Nat} (hc : X.calm = true) (h : FGs X es gs vs) (hn : (assignEach es X.env).length = n := by rfl) (hst : (assignEach es X.env).findIdx? (·.1) = none := by rfl) :
    FG X (.Tuple es k pos) (gT n gs) vs := by
  obtain ⟨t, p, o⟩ := h.ex
  refine ⟨⟨_, pg_tup hc p hn hst, fun B H σ ρ d v Q S h' ⟨ρ', eq, k⟩ => ?_⟩, fun d ρ ρ' eq j hj => ?_⟩
  rotate_left
  · unfold gT at eq
    split at eq
    · split at eq
      · exact h.out _ _ _ eq j hj
      · cases eq
    · cases eq
  unfold gT at eq
  split at eq
  · rename_i xs _
    split at eq
    · rename_i hl
      obtain ⟨a, vs, e1, e2, e3⟩ := h'
      exact ⟨a, vs, e1, S.ex.st e2, by rw [e3.length, hl], o B H σ ρ xs vs Q S e3 ⟨ρ', eq, k⟩⟩
    · cases eq
  · cases eq
/-- target = value, the value data or frozen -/
def sAsg (g : D → Rho → Option Rho) (f : Rho → Rs RV) : Rho → Out := fun ρ => (f ρ).thn fun r ρ1 => match g (view ρ1 r) (frz r ρ1) with
  | some ρ2 => .nx ρ2
  | none => .err
theorem fs_asg {tg : Expr} {g : D → Rho → Option Rho} {vs : List Nat} (h : FE X W e F) (hg : FG X tg g vs) (hs : swapsWithSole [tg] e pos.line X.env = pure false := by rfl) (hw : swappedStores [tg] e X.env = pure none := by rfl)
    (h1 : (assignEach [tg] X.env).map (·.2) = [assign tg X.env] := by rfl) : FS X W (.Assign [tg] e pos) (sAsg g F) := by
  obtain ⟨t, p, o⟩ := h.ex
  obtain ⟨t', p', o'⟩ := hg.ex
  refine ⟨_, ps_asg p p' hs hw h1, fun B H σ ρ D S post => ?_⟩
  refine o B H σ ρ _ S (post.ahead fun r ρ1 B1 H1 S1 st1 f1 post1 v hv => ?_)
  obtain ⟨B2, x2, S2, st2, rp, _⟩ := take1 S1 st1 hv
  cases eg : g (view ρ1 r) (frz r ρ1) with
  | none => rw [eg] at post1; exact post1.elim
  | some ρ2 =>
    rw [eg] at post1
    refine o' B2 H1 σ _ _ v _ S2 rp ⟨ρ2, eg, fun σ' S' own' _ => ?_⟩
    exact post1 B2 H1 σ' S' (st2.own own')
/-! ### a slot's list: append, a place set -/
def sApp (i : Nat) (a : Rho → Rs RV) : Rho → Out := fun ρ => match ρ[i]? with
  | some (some (.l _)) => (a ρ).thn fun r ρ1 => match (frz r ρ1)[i]? with
    | some (some (.l xs)) => if xs.length < 100000 then .nx ((frz r ρ1).set i (some (.l (xs ++ [view ρ1 r])))) else .err
    | _ => .err
  | _ => .err
theorem line_lt {n : Nat} (h : n < 100000) : n < sizeLine := Nat.lt_of_lt_of_le h (by decide)
theorem fs_append {i : Nat} {x : Str} {p1 p2 p3 : Pos} (hN : X.N[i]? = some x) (hv : Vis X.env.scope x) (h : FE X W e F)
    (hbase : attributeBase (.Name x p1) "append" X.env (eval (.Name x p1) X.env) = eval (.Name x p1) X.env := by rfl)
    (hfew : ((backTo p3 (starEach [e] X.env)).all (fun x => !x.1) && (backToKw p3 (keywordEach [] X.env)).all (fun x => x.1.isSome)
      && decide (([e] : List Expr).length + ([] : List Keyword).length + (if ([] : List Keyword).isEmpty then 0 else 1) < 30)) = true := by rfl)
    (hline : (p2.endLine == p3.line) = true := by rfl) (hs : starEach [e] X.env = (false, eval e X.env) :: starEach [] X.env := by rfl) (hplain : (backTo p3 (starEach [] X.env)).any (·.1) = false := by rfl)
    (hsw : swapsWith (.Call (.Attribute (.Name x p1) "append" p2) [e] [] p3) none pos.line X.env = pure false := by rfl)
    (hd : (x == ("__debug__" : Str)) = false := by decide) (hcd : (x == ("__classdict__" : Str)) = false := by decide) :
    FS X W (.Expr (.Call (.Attribute (.Name x p1) "append" p2) [e] [] p3) pos) (sApp i F) := by
  obtain ⟨t, p, o⟩ := h.ex
  refine ⟨_, ps_expr (pe_bm PySem.F.plainAttrs_list PySem.F.slot_list_append PySem.F.type_list_append mt_append (pe_var hN hv hd hcd) (pa_cons p pa_nil hs) hbase hfew hline hs hplain) hsw, fun B H σ ρ D S post => ?_⟩
  unfold sApp at post
  split at post
  · rename_i xs0 e0
    obtain ⟨v0, ha, a, vs0, rfl, q1, q2, q3⟩ := S.slot i _ e0
    refine ⟨.ref a, ha, .inl ⟨rfl, vs0, SqL.of q2⟩, ?_⟩
    refine o B H σ ρ _ S (post.ahead fun r ρ1 B1 H1 S1 st1 f1 post1 v hv => ?_)
    obtain ⟨B2, x2, S2, st2, rp, _⟩ := take1 S1 st1 hv
    split at post1
    · rename_i xs e1
      split at post1
      · rename_i hl
        obtain ⟨v', e2, e3⟩ := S2.slot i _ e1
        obtain ⟨a', vs, e4, e5, e6, e7⟩ := e3
        rw [ha] at e2; cases e2; cases e4
        refine ⟨a, vs, v, rfl, rfl, e6, line_lt (by rw [e7.length]; exact hl), ?_⟩
        obtain ⟨S3, st3⟩ := mutS (sv' := .l (xs ++ [view ρ1 r])) (o := .lst (vs ++ [v])) S2 e1 rfl ha ⟨a, _, rfl, e5, upd_same, e7.append (RpL.cons rp RpL.nil)⟩ rfl
        exact post1 B2 _ σ S3 (st2.trans st3)
      · exact post1.elim
    · exact post1.elim
  · exact post.elim
end
end FP
namespace FP
open PySem L2

/-! ## What is walked -/
/-- J yields the data ds, whatever is laid meanwhile (the base grows from B0 on) -/
structure Yl (K : PySem.W.Frag) (J : It) (B0 : Hp) (ds : List D) : Prop where
  go : ∀ i B H, Ex B0 B → Ex B H → i < ds.length → J.go i H
  stop : ∀ B H, Ex B0 B → Ex B H → J.stop ds.length H
  yld : ∀ i B H x H' σ ρ d, SR K B H σ ρ → Ex B0 B → J.yld i H x H' → ds[i]? = some d → ∃ B', SR K B' H' σ ρ ∧ Step B H σ ρ B' H' σ ρ ∧ Rp K B' d x
structure FI (X : Cx) (W : WX) (tg iter : Expr) (F : Rho → Rs (List D)) : Prop where
  ex : ∃ wi, PI X tg iter wi ∧ ∀ B H σ ρ R, SR X.K B H σ ρ → Post X.K W B H σ ρ (fun B' H' _ ds => ∀ J, Yl X.K J B' ds → R J H') (F ρ) → wi σ H R

section
variable {K : PySem.W.Frag}
theorem yl_list {a : Addr} {vs : List V} {B0 : Hp} {ds : List D} (h : SqL K B0 a vs) (r : RpL K B0 ds vs) (inj : ∀ H ys, SqL K H a ys → SqL K H a vs → ys = vs) : Yl K (Itl K a) B0 ds where
  go := fun i B H e1 e2 hi => by
    have hl := r.length
    exact ⟨vs, vs[i]'(by omega), (e1.trans e2).sl h, by simp [show i < vs.length by omega]⟩
  stop := fun B H e1 e2 => ⟨vs, (e1.trans e2).sl h, by rw [r.length]; exact Nat.le_refl _⟩
  yld := fun i B H x H' σ ρ d S e1 y hd => by
    obtain ⟨rfl, y⟩ := y
    obtain ⟨v, h1, h2⟩ := r.getD' hd
    have := y vs ((e1.trans S.ex).sl h)
    rw [h1] at this; cases this
    exact ⟨B, S, Step.refl, Rp.up e1 h2⟩
theorem yl_list' {a : Addr} {vs : List V} {B0 : Hp} {ds : List D} (h : SqL K B0 a vs) (r : RpL K B0 ds vs) : Yl K (Itl K a) B0 ds where
  go := fun i B H e1 e2 hi => by
    have hl := r.length
    exact ⟨vs, vs[i]'(by omega), (e1.trans e2).sl h, by simp [show i < vs.length by omega]⟩
  stop := fun B H e1 e2 => ⟨vs, (e1.trans e2).sl h, by rw [r.length]; exact Nat.le_refl _⟩
  yld := fun i B H x H' σ ρ d S e1 y hd => by
    obtain ⟨rfl, y⟩ := y
    obtain ⟨v, h1, h2⟩ := r.getD' hd
    have := y vs ((e1.trans S.ex).sl h)
    rw [h1] at this; cases this
    exact ⟨B, S, Step.refl, Rp.up e1 h2⟩
theorem yl_tup {a : Addr} {vs : List V} {B0 : Hp} {ds : List D} (h : SqT K B0 a vs) (r : RpL K B0 ds vs) : Yl K (Itt K a) B0 ds where
  go := fun i B H e1 e2 hi => by
    have hl := r.length
    exact ⟨vs, vs[i]'(by omega), (e1.trans e2).st h, by simp [show i < vs.length by omega]⟩
  stop := fun B H e1 e2 => ⟨vs, (e1.trans e2).st h, by rw [r.length]; exact Nat.le_refl _⟩
  yld := fun i B H x H' σ ρ d S e1 y hd => by
    obtain ⟨rfl, y⟩ := y
    obtain ⟨v, h1, h2⟩ := r.getD' hd
    have := y vs ((e1.trans S.ex).st h)
    rw [h1] at this; cases this
    exact ⟨B, S, Step.refl, Rp.up e1 h2⟩
/-- lo, lo + 1, .. -/
def rngD (lo : Int) (n : Nat) : List D := (List.range n).map fun i => D.int (lo + (i : Nat))
theorem rngD_get {lo : Int} {n i : Nat} {d : D} (h : (rngD lo n)[i]? = some d) : d = .int (lo + (i : Nat)) := by
  unfold rngD at h
  rw [List.getElem?_map] at h
  obtain ⟨j, h1, h2⟩ := Option.map_eq_some_iff.mp h
  have h3 := List.getElem?_eq_some_iff.mp h1
  obtain ⟨h4, h5⟩ := h3
  rw [List.getElem_range] at h5
  subst h5
  exact h2.symm
theorem rngD_len {lo : Int} {n : Nat} : (rngD lo n).length = n := by simp [rngD]
theorem yl_rng {lo : Int} {n : Nat} {B0 : Hp} : Yl K (Itr lo n) B0 (rngD lo n) where
  go := fun i B H _ _ hi => by rw [rngD_len] at hi; exact hi
  stop := fun B H _ _ => by rw [rngD_len]; exact Nat.le_refl _
  yld := fun i B H x H' σ ρ d S _ y hd => by
    obtain ⟨rfl, rfl⟩ := y
    rw [rngD_get hd]
    exact ⟨B, S, Step.refl, rfl⟩
def rngC (lo c : Int) (n : Nat) : List D := (List.range n).map fun i => D.int (lo + (i : Nat) * c)
theorem rngC_len {lo c : Int} {n : Nat} : (rngC lo c n).length = n := by simp [rngC]
theorem rngC_get {lo c : Int} {n i : Nat} {d : D} (h : (rngC lo c n)[i]? = some d) : d = .int (lo + (i : Nat) * c) := by
  unfold rngC at h
  rw [List.getElem?_map] at h
  obtain ⟨j, h1, h2⟩ := Option.map_eq_some_iff.mp h
  obtain ⟨h4, h5⟩ := List.getElem?_eq_some_iff.mp h1
  rw [List.getElem_range] at h5
  subst h5
  exact h2.symm
theorem yl_rngC {lo c : Int} {n : Nat} {B0 : Hp} : Yl K (Itc lo c n) B0 (rngC lo c n) where
  go := fun i B H _ _ hi => by rw [rngC_len] at hi; exact hi
  stop := fun B H _ _ => by rw [rngC_len]; exact Nat.le_refl _
  yld := fun i B H x H' σ ρ d S _ y hd => by
    obtain ⟨rfl, rfl⟩ := y
    rw [rngC_get hd]
    exact ⟨B, S, Step.refl, rfl⟩
/-- (0, x0), (1, x1), .. -/
def enumD (i0 : Nat) : List D → List D
  | [] => []
  | d :: ds => .tup [.int (i0 : Nat), d] :: enumD (i0 + 1) ds
theorem enumD_len : ∀ {ds : List D} {i0 : Nat}, (enumD i0 ds).length = ds.length
  | [], _ => rfl
  | _ :: ds, i0 => by rw [enumD, List.length_cons, List.length_cons, enumD_len]
theorem enumD_get : ∀ {ds : List D} {i0 i : Nat} {d : D}, (enumD i0 ds)[i]? = some d → ∃ e, ds[i]? = some e ∧ d = .tup [.int ((i0 + i : Nat) : Int), e]
  | [], _, _, _, h => by simp [enumD] at h
  | e :: ds, i0, 0, d, h => by
    simp only [enumD, List.getElem?_cons_zero, Option.some.injEq] at h
    exact ⟨e, by simp, by rw [← h]; simp⟩
  | e :: ds, i0, i + 1, d, h => by
    simp only [enumD, List.getElem?_cons_succ] at h
    obtain ⟨e', h1, h2⟩ := enumD_get h
    exact ⟨e', by simpa using h1, by rw [h2, show i0 + 1 + i = i0 + (i + 1) by omega]⟩
theorem yl_enum {a : Addr} {vs : List V} {B0 : Hp} {ds : List D} (h : SqL K B0 a vs) (r : RpL K B0 ds vs) : Yl K (Ite K a) B0 (enumD 0 ds) where
  go := fun i B H e1 e2 hi => by
    rw [enumD_len] at hi
    have hl := r.length
    exact ⟨vs, vs[i]'(by omega), (e1.trans e2).sl h, by simp [show i < vs.length by omega]⟩
  stop := fun B H e1 e2 => ⟨vs, (e1.trans e2).sl h, by rw [r.length, enumD_len]; exact Nat.le_refl _⟩
  yld := fun i B H x H' σ ρ d S e1 y hd => by
    obtain ⟨T, x', rfl, hT, rfl, y⟩ := y
    obtain ⟨e, h1, rfl⟩ := enumD_get hd
    obtain ⟨v, h2, h3⟩ := r.getD' h1
    have := y vs ((e1.trans S.ex).sl h)
    rw [h2] at this; cases this
    refine ⟨_, S.newB hT, Step.newB S hT, T, _, rfl, SqT.of upd_same, RpL.cons ?_ (RpL.cons (Rp.up (e1.trans (Ex.new (S.notNew hT))) h3) RpL.nil)⟩
    show V.int _ = V.int _
    simp
def zipD : List D → List D → List D
  | a :: as, b :: bs => .tup [a, b] :: zipD as bs
  | _, _ => []
theorem zipD_len : ∀ {as bs : List D}, (zipD as bs).length = min as.length bs.length
  | [], _ => by simp [zipD]
  | _ :: _, [] => by simp [zipD]
  | a :: as, b :: bs => by rw [zipD, List.length_cons, List.length_cons, List.length_cons, zipD_len]; omega
theorem zipD_get : ∀ {as bs : List D} {i : Nat} {d : D}, (zipD as bs)[i]? = some d → ∃ a b, as[i]? = some a ∧ bs[i]? = some b ∧ d = .tup [a, b]
  | [], _, _, _, h => by simp [zipD] at h
  | _ :: _, [], _, _, h => by simp [zipD] at h
  | a :: as, b :: bs, 0, d, h => by
    simp only [zipD, List.getElem?_cons_zero, Option.some.injEq] at h
    exact ⟨a, b, rfl, rfl, h.symm⟩
  | a :: as, b :: bs, i + 1, d, h => by
    simp only [zipD, List.getElem?_cons_succ] at h
    obtain ⟨x, y, h1, h2, h3⟩ := zipD_get h
    exact ⟨x, y, by simpa using h1, by simpa using h2, h3⟩
theorem yl_zip {a b : Addr} {vs ws : List V} {B0 : Hp} {ds es : List D} (h : SqL K B0 a vs) (r : RpL K B0 ds vs) (h' : SqL K B0 b ws) (r' : RpL K B0 es ws) : Yl K (Itz K a b) B0 (zipD ds es) where
  go := fun i B H e1 e2 hi => by
    rw [zipD_len] at hi
    have hl := r.length
    have hl' := r'.length
    exact ⟨vs, ws, vs[i]'(by omega), ws[i]'(by omega), (e1.trans e2).sl h, (e1.trans e2).sl h', by simp [show i < vs.length by omega], by simp [show i < ws.length by omega]⟩
  stop := fun B H e1 e2 => ⟨vs, ws, (e1.trans e2).sl h, (e1.trans e2).sl h', by rw [r.length, r'.length, zipD_len]; omega⟩
  yld := fun i B H x H' σ ρ d S e1 y hd => by
    obtain ⟨T, x', y', rfl, hT, rfl, y1, y2⟩ := y
    obtain ⟨e, f, h1, h2, rfl⟩ := zipD_get hd
    obtain ⟨v, h3, h4⟩ := r.getD' h1
    obtain ⟨w, h5, h6⟩ := r'.getD' h2
    have := y1 vs ((e1.trans S.ex).sl h)
    rw [h3] at this; cases this
    have := y2 ws ((e1.trans S.ex).sl h')
    rw [h5] at this; cases this
    have ex' := e1.trans (Ex.new (o := .tup [x', y']) (S.notNew hT))
    exact ⟨_, S.newB hT, Step.newB S hT, T, _, rfl, SqT.of upd_same, RpL.cons (Rp.up ex' h4) (RpL.cons (Rp.up ex' h6) RpL.nil)⟩
theorem yl_rev {a : Addr} {vs : List V} {B0 : Hp} {ds : List D} (h : SqL K B0 a vs) (r : RpL K B0 ds vs) : Yl K (Itv K a vs.length) B0 ds.reverse where
  go := fun i B H e1 e2 hi => by
    rw [List.length_reverse] at hi
    have hl := r.length
    exact ⟨by omega, vs, vs[vs.length - 1 - i]'(by omega), (e1.trans e2).sl h, by simp [show vs.length - 1 - i < vs.length by omega]⟩
  stop := fun B H e1 e2 => by
    rw [List.length_reverse]
    exact Nat.le_of_eq r.length
  yld := fun i B H x H' σ ρ d S e1 y hd => by
    obtain ⟨rfl, y⟩ := y
    have hi : i < ds.length := by
      have := (List.getElem?_eq_some_iff.mp hd).1
      rwa [List.length_reverse] at this
    rw [List.getElem?_reverse hi] at hd
    obtain ⟨v, h1, h2⟩ := r.getD' hd
    have := y vs ((e1.trans S.ex).sl h)
    rw [r.length, h1] at this; cases this
    exact ⟨B, S, Step.refl, Rp.up e1 h2⟩
/-- the signs of a text -/
def signs (s : Str) : List D := s.cps.toList.map fun c => D.str ⟨#[c]⟩
theorem yl_str {s : Str} {B0 : Hp} : Yl K (Its s) B0 (signs s) where
  go := fun i B H _ _ hi => by
    simp only [signs, List.length_map, Array.length_toList] at hi
    exact hi
  stop := fun B H _ _ => by
    simp only [signs, List.length_map, Array.length_toList]
    exact Nat.le_refl _
  yld := fun i B H x H' σ ρ d S _ y hd => by
    obtain ⟨rfl, c, h1, rfl⟩ := y
    unfold signs at hd
    rw [List.getElem?_map] at hd
    obtain ⟨c', h2, rfl⟩ := Option.map_eq_some_iff.mp hd
    rw [Array.getElem?_toList, h1] at h2
    cases h2
    exact ⟨B, S, Step.refl, rfl⟩
end

section
variable {X : Cx} {W : WX} {tg e a b c : Expr} {F A Bf Cf : Rho → Rs RV} {As : Rho → Rs (List RV)} {p pos : Pos}
/-- a list, a tuple as it stands: frozen meanwhile -/
def iSeq (f : Rho → Rs RV) : Rho → Rs (List D) := fun ρ => (f ρ).bind fun r ρ1 => match (view ρ1 r).items with
  | some ds => .ok ds (frz r ρ1)
  | none => .err
theorem items_base {K : PySem.W.Frag} {H : Hp} {d : D} {v : V} {ds : List D} (e : d.items = some ds) (h : Rp K H d v) : ∃ a vs, v = .ref a ∧ ((SqL K H a vs) ∨ SqT K H a vs) ∧ RpL K H ds vs := items_rp e h
theorem fi_seq (h : FE X W e F) : FI X W tg e (iSeq F) := by
  obtain ⟨t, pe, o⟩ := h.ex
  have pi : PI X tg e (fun σ H R => iList X.K t σ H R ∨ iTup X.K t σ H R) := ⟨fun pins s σ H R I h => by
    rcases h with h | h
    · exact (pi_list pe).run pins s σ H R I h
    · exact (pi_tup pe).run pins s σ H R I h⟩
  have pi' : PI X tg e (fun σ H R => t σ H fun x H1 => (∃ a, x = .ref a ∧ (∃ xs, SqL X.K H1 a xs) ∧ R (Itl X.K a) H1) ∨ (∃ a, x = .ref a ∧ (∃ xs, SqT X.K H1 a xs) ∧ R (Itt X.K a) H1)) := by
    refine ⟨fun pins s σ H R I h => ?_⟩
    refine thn (pe.run pins s σ H _ I h) fun u s1 ⟨x, H1, I1, rx, q⟩ => ?_
    rcases q with ⟨a, rfl, ⟨xs, hq⟩, q⟩ | ⟨a, rfl, ⟨xs, hq⟩, q⟩
    · cases rx
      obtain ⟨its, rv, pl, hz⟩ := I1.list hq
      refine wpAny_pyIter_list pl.isList ?_
      refine ⟨s1.heap.objs.size, [s1.heap.objs.size], _, _, H1, rfl, I1.kept (t' := s1.toks) fun b o e => Heap.get?_push_of_some _ e, turn_list a _, ⟨_, Heap.get?_push_size _ rfl, rfl, rfl⟩, fun b hb => ?_, q⟩
      have e : b = s1.heap.objs.size := by simpa using hb
      subst e
      exact I1.fpOk (Nat.le_refl _) (I1.hok.fresh (Nat.le_refl _))
    · cases rx
      obtain ⟨its, rv, pl, hz⟩ := I1.tuple hq
      refine wpAny_pyIter_tuple (show s1.heap.IsTuple a its.toArray from pl) ?_
      refine ⟨s1.heap.objs.size, [s1.heap.objs.size], _, _, H1, rfl, I1.kept (t' := s1.toks) fun b o e => Heap.get?_push_of_some _ e, turn_tuple a _, ⟨_, Heap.get?_push_size _ rfl, rfl, rfl⟩, fun b hb => ?_, q⟩
      have e : b = s1.heap.objs.size := by simpa using hb
      subst e
      exact I1.fpOk (Nat.le_refl _) (I1.hok.fresh (Nat.le_refl _))
  refine ⟨_, pi', fun B H σ ρ R S post => ?_⟩
  refine o B H σ ρ _ S (post.bind0 fun r ρ1 B1 H1 S1 st1 f1 post1 v hv => ?_)
  split at post1
  · rename_i ds e1
    obtain ⟨B2, x2, S2, st2, rp, _⟩ := take1 S1 st1 hv
    obtain ⟨a, vs, rfl, hs, hl⟩ := items_rp e1 rp
    rcases hs with hs | hs
    · exact .inl ⟨a, rfl, ⟨vs, S2.ex.sl hs⟩, post1 B2 H1 S2 st2 (f1.trans frz_fills) _ (yl_list' hs hl)⟩
    · exact .inr ⟨a, rfl, ⟨vs, S2.ex.st hs⟩, post1 B2 H1 S2 st2 (f1.trans frz_fills) _ (yl_tup hs hl)⟩
  · exact post1.elim
def iStrF (f : Rho → Rs RV) : Rho → Rs (List D) := fun ρ => (f ρ).bind fun r ρ1 => match view ρ1 r with
  | .str s => .ok (signs s) ρ1
  | _ => .err
theorem fi_str (h : FE X W e F) : FI X W tg e (iStrF F) := by
  obtain ⟨t, pe, o⟩ := h.ex
  refine ⟨_, pi_str pe, fun B H σ ρ R S post => ?_⟩
  refine o B H σ ρ _ S (post.bind0 fun r ρ1 B1 H1 S1 st1 f1 post1 v hv => ?_)
  split at post1
  · rename_i s e1
    have g := hv.view S1
    rw [e1] at g
    cases rp_str g
    exact ⟨s, rfl, post1 B1 H1 S1 st1 f1 _ yl_str⟩
  · exact post1.elim
def LIM : Int := 2 ^ 60
def iRng1F (f : Rho → Rs RV) : Rho → Rs (List D) := fun ρ => (f ρ).bind fun r ρ1 => match view ρ1 r with
  | .int n => if -LIM ≤ n ∧ n < LIM then .ok (rngD 0 n.toNat) ρ1 else .err
  | _ => .err
theorem lim_62 {n : Int} (h : -LIM ≤ n ∧ n < LIM) : -(2 ^ 62) ≤ n ∧ n < 2 ^ 62 := by
  unfold LIM at h
  omega
theorem fi_rng1 (hg : Gl X "range") (hm : X.mg "range" = none) (h : FE X W a F) (hs : starEach [a] X.env = (false, eval a X.env) :: starEach [] X.env := by rfl) : FI X W tg (.Call (.Name "range" p) [a] [] pos) (iRng1F F) := by
  obtain ⟨t, pe, o⟩ := h.ex
  refine ⟨_, pi_range1 hg hm (pa_cons pe pa_nil hs) hs, fun B H σ ρ R S post => ?_⟩
  refine o B H σ ρ _ S (post.bind0 fun r ρ1 B1 H1 S1 st1 f1 post1 v hv => ?_)
  split at post1
  · rename_i n e1
    split at post1
    · rename_i hl
      have g := hv.view S1
      rw [e1] at g
      cases rp_int g
      exact ⟨n, rfl, (lim_62 hl).1, (lim_62 hl).2, post1 B1 H1 S1 st1 f1 _ yl_rng⟩
    · exact post1.elim
  · exact post1.elim
def iRng2F (f g : Rho → Rs RV) : Rho → Rs (List D) := fun ρ => (f ρ).bind fun r ρ1 => (g ρ1).bind fun q ρ2 => match view ρ2 r, view ρ2 q with
  | .int m, .int n => if (-LIM ≤ m ∧ m < LIM) ∧ -LIM ≤ n ∧ n < LIM then .ok (rngD m (n - m).toNat) ρ2 else .err
  | _, _ => .err
theorem fi_rng2 (hg : Gl X "range") (hm : X.mg "range" = none) (h : FE X W a A) (h' : FE X W b Bf) (hs : starEach [a, b] X.env = [(false, eval a X.env), (false, eval b X.env)] := by rfl) (hs2 : starEach [b] X.env = [(false, eval b X.env)] := by rfl) :
    FI X W tg (.Call (.Name "range" p) [a, b] [] pos) (iRng2F A Bf) := by
  obtain ⟨t, pe, o⟩ := h.ex
  obtain ⟨t', pe', o'⟩ := h'.ex
  refine ⟨_, pi_range2 hg hm (pa_cons pe (pa_cons pe' pa_nil hs2) (hs.trans (by rw [hs2]))) hs hs2, fun B H σ ρ R S post => ?_⟩
  refine o B H σ ρ _ S (post.bind0 fun r ρ1 B1 H1 S1 st1 f1 post1 v hv => ?_)
  refine o' B1 H1 σ ρ1 _ S1 (post1.bind st1 f1 fun q ρ2 B2 H2 S2 st2 f2 post2 w hw => ?_)
  split at post2
  · rename_i m n e1 e2
    split at post2
    · rename_i hl
      have g := (hv.later st2 f2).view S2
      rw [e1] at g
      cases rp_int g
      have g := hw.view S2
      rw [e2] at g
      cases rp_int g
      exact ⟨m, n, rfl, ⟨(lim_62 hl.1).1, (lim_62 hl.1).2, (lim_62 hl.2).1, (lim_62 hl.2).2⟩, post2 B2 H2 S2 (st1.trans st2) (f1.trans f2) _ yl_rng⟩
    · exact post2.elim
  · exact post2.elim
/-- range(a, b, -1) -/
def iRngD (f g k : Rho → Rs RV) : Rho → Rs (List D) := fun ρ => (f ρ).bind fun r ρ1 => (g ρ1).bind fun q ρ2 => (k ρ2).bind fun u ρ3 => match view ρ3 r, view ρ3 q, view ρ3 u with
  | .int m, .int n, .int c => if ((-LIM ≤ m ∧ m < LIM) ∧ -LIM ≤ n ∧ n < LIM) ∧ c = -1 then .ok (rngC m (-1) (m - n).toNat) ρ3 else .err
  | _, _, _ => .err
theorem fi_rngD (hg : Gl X "range") (hm : X.mg "range" = none) (h : FE X W a A) (h' : FE X W b Bf) (h'' : FE X W c Cf) (hs3 : starEach [c] X.env = (false, eval c X.env) :: starEach [] X.env := by rfl) (hs2 : starEach [b, c] X.env = (false, eval b X.env) :: starEach [c] X.env := by rfl)
    (hs : starEach [a, b, c] X.env = (false, eval a X.env) :: starEach [b, c] X.env := by rfl) (hpl : (backTo pos (starEach [b, c] X.env)).any (·.1) = false := by rfl) :
    FI X W tg (.Call (.Name "range" p) [a, b, c] [] pos) (iRngD A Bf Cf) := by
  obtain ⟨t, pe, o⟩ := h.ex
  obtain ⟨t', pe', o'⟩ := h'.ex
  obtain ⟨t'', pe'', o''⟩ := h''.ex
  refine ⟨_, pi_range3 hg hm (pa_cons pe (pa_cons pe' (pa_cons pe'' pa_nil hs3) hs2) hs) hs hpl, fun B H σ ρ R S post => ?_⟩
  refine o B H σ ρ _ S (post.bind0 fun r ρ1 B1 H1 S1 st1 f1 post1 v hv => ?_)
  refine o' B1 H1 σ ρ1 _ S1 (post1.bind st1 f1 fun q ρ2 B2 H2 S2 st2 f2 post2 w hw => ?_)
  refine o'' B2 H2 σ ρ2 _ S2 (post2.bind (st1.trans st2) (f1.trans f2) fun u ρ3 B3 H3 S3 st3 f3 post3 z hz => ?_)
  split at post3
  · rename_i m n c e1 e2 e3
    split at post3
    · rename_i hl
      have g := ((hv.later st2 f2).later st3 f3).view S3
      rw [e1] at g
      cases rp_int g
      have g := (hw.later st3 f3).view S3
      rw [e2] at g
      cases rp_int g
      have g := hz.view S3
      rw [e3] at g
      cases rp_int g
      obtain ⟨⟨l1, l2⟩, rfl⟩ := hl
      exact ⟨m, n, -1, _, rfl, RgC.neg (lim_62 l1).1 (lim_62 l1).2 (lim_62 l2).1 (lim_62 l2).2, post3 B3 H3 S3 ((st1.trans st2).trans st3) ((f1.trans f2).trans f3) _ yl_rngC⟩
    · exact post3.elim
  · exact post3.elim

/-! ## for -/
def forL (g : D → Rho → Option Rho) (body : Rho → Out) : List D → Rho → Out
  | [], ρ => .nx ρ
  | d :: ds, ρ => match g d ρ with
    | none => .err
    | some ρ1 => match body ρ1 with
      | .nx ρ2 => forL g body ds ρ2
      | .ct ρ2 => forL g body ds ρ2
      | .bk ρ2 => .nx ρ2
      | .rt r ρ2 => .rt r ρ2
      | .exc x ρ2 => .exc x ρ2
      | .err => .err
def sFor (src : Rho → Rs (List D)) (g : D → Rho → Option Rho) (body : Rho → Out) : Rho → Out := fun ρ => (src ρ).thn fun ds ρ1 => forL g body ds ρ1
theorem fs_for {iter : Expr} {body : List Stmt} {src : Rho → Rs (List D)} {g : D → Rho → Option Rho} {G : Rho → Out} (hp : PassesOwn (model X.prog X.w) X.A X.env X.xe) (hc : X.calm = true) {vs : List Nat} (hi : FI X W tg iter src) (hg : FG X tg g vs) (hb : FB X W body G)
    (hs : ∀ x, foldedSetIterable iter X.env x = pure x := by intro _; rfl) : FS X W (.For tg iter body [] pos) (sFor src g G) := by
  obtain ⟨wi, pi, oi⟩ := hi.ex
  obtain ⟨t, pg, og⟩ := hg.ex
  obtain ⟨tb, pb, ob⟩ := hb.ex
  refine ⟨_, ps_for hp hc pi pg pb hs, fun B H σ ρ En S post => ?_⟩
  refine oi B H σ ρ _ S (post.ahead fun ds ρ1 B1 H1 S1 st1 f1 post1 J yl => ?_)
  refine ⟨fun i m σ' H' => m = ds.length - i ∧ i ≤ ds.length ∧ ∃ B' ρ', SR X.K B' H' σ' ρ' ∧ Step B H σ ρ B' H' σ' ρ' ∧ Ex B1 B' ∧ PostS X.K W B H σ ρ En (forL g G (ds.drop i) ρ'), ⟨ds.length, by simp, Nat.zero_le _, B1, ρ1, S1, st1, Ex.refl _, by simpa using post1⟩, ?_⟩
  rintro i m σ' H' ⟨rfl, hi', B', ρ', S', st', x', post'⟩
  by_cases hlt : i < ds.length
  · right
    obtain ⟨d, hd⟩ : ∃ d, ds[i]? = some d := ⟨ds[i], by simp [hlt]⟩
    have hdrop : ds.drop i = d :: ds.drop (i + 1) := by
      have h1 := (List.getElem?_eq_some_iff.mp hd).2
      rw [List.drop_eq_getElem_cons hlt, h1]
    rw [hdrop] at post'
    refine ⟨yl.go i B' H' x' S'.ex hlt, fun σ2 H2 => ∃ m', m' < ds.length - i ∧ (m' = ds.length - (i + 1) ∧ i + 1 ≤ ds.length ∧ ∃ B' ρ', SR X.K B' H2 σ2 ρ' ∧ Step B H σ ρ B' H2 σ2 ρ' ∧ Ex B1 B' ∧ PostS X.K W B H σ ρ En (forL g G (ds.drop (i + 1)) ρ')), fun σ2 H2 h => h, fun x H2 hy => ?_⟩
    obtain ⟨B2, S2, st2, rp⟩ := yl.yld i B' H' x H2 σ' ρ' d S' x' hy hd
    have post2 := post'
    unfold forL at post2
    cases eg : g d ρ' with
    | none => rw [eg] at post2; exact post2.elim
    | some ρ3 =>
      rw [eg] at post2
      refine og B2 H2 σ' ρ' d x _ S2 rp ⟨ρ3, eg, fun σ3 S3 own3 _ => ?_⟩
      have st3 : Step B H σ ρ B2 H2 σ3 ρ3 := by
        have st02 := st'.trans st2
        exact st02.own own3
      refine ob B2 H2 σ3 ρ3 _ S3 ?_
      have again : ∀ {ρ4 : Rho}, PostS X.K W B H σ ρ En (forL g G (ds.drop (i + 1)) ρ4) → ∀ B4 H4 σ4, SR X.K B4 H4 σ4 ρ4 → Step B2 H2 σ3 ρ3 B4 H4 σ4 ρ4 →
          ∃ m', m' < ds.length - i ∧ (m' = ds.length - (i + 1) ∧ i + 1 ≤ ds.length ∧ ∃ B' ρ', SR X.K B' H4 σ4 ρ' ∧ Step B H σ ρ B' H4 σ4 ρ' ∧ Ex B1 B' ∧ PostS X.K W B H σ ρ En (forL g G (ds.drop (i + 1)) ρ')) := fun {ρ4} p4 B4 H4 σ4 S4 st4 =>
        ⟨ds.length - (i + 1), by omega, rfl, hlt, B4, ρ4, S4, st3.trans st4, (x'.trans st2.bb).trans st4.bb, p4⟩
      dsimp only at post2
      cases eb : G ρ3 with
      | err => rw [eb] at post2; exact post2.elim
      | nx ρ4 => rw [eb] at post2; exact again post2
      | ct ρ4 => rw [eb] at post2; exact again post2
      | bk ρ4 => rw [eb] at post2; exact fun B4 H4 σ4 S4 st4 => post2 B4 H4 σ4 S4 (st3.trans st4)
      | rt r ρ4 => rw [eb] at post2; exact fun B4 H4 σ4 v S4 st4 hv => post2 B4 H4 σ4 v S4 (st3.trans st4) (hv.h0 st3.dom)
      | exc x ρ4 => rw [eb] at post2; exact fun B4 H4 σ4 cls dd S4 st4 xr => post2 B4 H4 σ4 cls dd S4 (st3.trans st4) (xr.h0 st3.dom)
  · left
    have e : i = ds.length := by omega
    subst e
    rw [List.drop_length] at post'
    exact ⟨yl.stop B' H' x' S'.ex, post' B' H' σ' S' st'⟩

/-! ## while -/
def whileL (t : Rho → Rs Bool) (body : Rho → Out) : Nat → Rho → Out
  | 0, _ => .err
  | n + 1, ρ => match t ρ with
    | .err => .err
    | .exc x ρ1 => .exc x ρ1
    | .ok false ρ1 => .nx ρ1
    | .ok true ρ1 => match body ρ1 with
      | .nx ρ2 => whileL t body n ρ2
      | .ct ρ2 => whileL t body n ρ2
      | .bk ρ2 => .nx ρ2
      | .rt r ρ2 => .rt r ρ2
      | .exc x ρ2 => .exc x ρ2
      | .err => .err
def FUEL : Nat := 1000000
def sWhile (t : Rho → Rs Bool) (body : Rho → Out) : Rho → Out := whileL t body FUEL
theorem fs_while {cnd : Expr} {body : List Stmt} {T : Rho → Rs Bool} {G : Rho → Out} (hp : PassesOwn (model X.prog X.w) X.A X.env X.xe) (hc : FT X W cnd T) (hb : FB X W body G) : FS X W (.While cnd body [] pos) (sWhile T G) := by
  obtain ⟨tc, pc, oc⟩ := hc.ex
  obtain ⟨tb, pb, ob⟩ := hb.ex
  refine ⟨_, ps_while hp pc pb, fun B H σ ρ En S post => ?_⟩
  refine ⟨fun n σ' H' => ∃ B' ρ', SR X.K B' H' σ' ρ' ∧ Step B H σ ρ B' H' σ' ρ' ∧ PostS X.K W B H σ ρ En (whileL T G n ρ'), ⟨FUEL, B, ρ, S, Step.refl, post⟩, ?_⟩
  rintro n σ1 H1 ⟨B1, ρ1, S1, st1, post1⟩
  cases n with
  | zero => exact post1.elim
  | succ n =>
    unfold whileL at post1
    refine oc B1 H1 σ1 ρ1 _ S1 ?_
    cases et : T ρ1 with
    | err => rw [et] at post1; exact post1.elim
    | exc x ρ2 => rw [et] at post1; exact fun B2 H2 cls d S2 st2 xr => post1 B2 H2 σ1 cls d S2 (st1.trans st2) (xr.h0 st1.dom)
    | ok k ρ2 =>
      rw [et] at post1
      intro B2 H2 S2 st2 f2
      cases k with
      | false => exact post1 B2 H2 σ1 S2 (st1.trans st2)
      | true =>
        dsimp only at post1
        have st12 := st1.trans st2
        refine ⟨fun σ3 H3 => ∃ m', m' < n + 1 ∧ ∃ B' ρ', SR X.K B' H3 σ3 ρ' ∧ Step B H σ ρ B' H3 σ3 ρ' ∧ PostS X.K W B H σ ρ En (whileL T G m' ρ'), fun σ3 H3 h => h, ob B2 H2 σ1 ρ2 _ S2 ?_⟩
        have again : ∀ {ρ4 : Rho}, PostS X.K W B H σ ρ En (whileL T G n ρ4) → ∀ B4 H4 σ4, SR X.K B4 H4 σ4 ρ4 → Step B2 H2 σ1 ρ2 B4 H4 σ4 ρ4 →
            ∃ m', m' < n + 1 ∧ ∃ B' ρ', SR X.K B' H4 σ4 ρ' ∧ Step B H σ ρ B' H4 σ4 ρ' ∧ PostS X.K W B H σ ρ En (whileL T G m' ρ') := fun {ρ4} p4 B4 H4 σ4 S4 st4 =>
          ⟨n, Nat.lt_succ_self _, B4, ρ4, S4, st12.trans st4, p4⟩
        cases eb : G ρ2 with
        | err => rw [eb] at post1; exact post1.elim
        | nx ρ4 => rw [eb] at post1; exact again post1
        | ct ρ4 => rw [eb] at post1; exact again post1
        | bk ρ4 => rw [eb] at post1; exact fun B4 H4 σ4 S4 st4 => post1 B4 H4 σ4 S4 (st12.trans st4)
        | rt r ρ4 => rw [eb] at post1; exact fun B4 H4 σ4 v S4 st4 hv => post1 B4 H4 σ4 v S4 (st12.trans st4) (hv.h0 st12.dom)
        | exc x ρ4 => rw [eb] at post1; exact fun B4 H4 σ4 cls dd S4 st4 xr => post1 B4 H4 σ4 cls dd S4 (st12.trans st4) (xr.h0 st12.dom)
end
end FP
namespace FP
open PySem L2 PySem.Builtin

/-! ## enumerate over a tuple -/
set_option maxHeartbeats 1000000 in
theorem enum1_meets {v : Value} {o : Obj} {Hy : Heap → Prop} (B : Begins v o Hy) :
    Meets (Builtin.«enumerate.__new__» ⟨[.type "enumerate", v], []⟩) (fun _ R s => Hy s.heap ∧
      R (.ok (.ret (.ref (s.heap.push o).objs.size))) { s with heap := (s.heap.push o).push { cls := .type "enumerate", data := .fields #[.none, .bool false, .ref s.heap.objs.size, rawInt 0, .none, .none] } }) :=
  .of_wp fun prog w A R s hh => by
    obtain ⟨hp, gs, dr, tk, os⟩ := s
    obtain ⟨h1, h⟩ := hh
    have hsub := sub_enumerate
    have q1 : ∀ {A' : Around} {E : Value → Shared → Prop} {Q : Value → Shared → Prop}, Q (.ref hp.objs.size) ⟨hp.push o, gs, dr, tk, os⟩ → wpAny (model prog w) A' (pyIter v) Q E ⟨hp, gs, dr, tk, os⟩ :=
      fun q => B.iter prog w _ _ ⟨hp, gs, dr, tk, os⟩ _ h1 q
    wp_walk using q1
    refine wpAny_stack_any fun st => wpAny_pure ?_
    split
    · rename_i c _ _ _ _ _
      cases (c == Value.type "enumerate") <;>
      · wp_walk using q1
        exact ⟨_, rfl, h⟩
    · wp_walk using q1
      exact ⟨_, rfl, h⟩
theorem call_enum1 {prog : Program} {w : World} {A : Around} {E : Value → Shared → Prop} {s : Shared} {v : Value} {o : Obj} {Hy : Heap → Prop} {Q : Value → Shared → Prop} (B : Begins v o Hy) (h1 : Hy s.heap)
    (h : ∀ h', IsEnum h' (s.heap.objs.size + 1) s.heap.objs.size 0 .none → h'.get? s.heap.objs.size = some o → h'.objs.size = s.heap.objs.size + 2 →
      (∀ b u, s.heap.get? b = some u → h'.get? b = some u) → Q (.ref (s.heap.objs.size + 1)) { s with heap := h' }) :
    wpAny (model prog w) A (call (.type "enumerate") [v]) Q E s := by
  refine callType_new F.called_enumerate (by decide) (F.typeCall_enumerate_1 _) (F.newCall_enumerate_1 _) (fun obj => F.args_object_init_2 obj _) F.entry_enumerate_new (enum1_meets B) ⟨h1, ?_⟩
  have hz : (s.heap.push o).objs.size = s.heap.objs.size + 1 := Heap.size_push ..
  show _ ∧ _
  rw [hz]
  have he := Heap.get?_push_size (s.heap.push o) (o := { cls := .type "enumerate", data := .fields #[.none, .bool false, .ref s.heap.objs.size, rawInt 0, .none, .none] }) rfl
  rw [hz] at he
  exact ⟨⟨_, he, rfl⟩, h _ he (Heap.get?_push_of_some _ (Heap.get?_push_size _ B.free)) (by rw [Heap.size_push, hz]) fun b u x => Heap.get?_push_of_some _ (Heap.get?_push_of_some _ x)⟩

def ItE (K : PySem.W.Frag) (a : Addr) : It :=
  ⟨fun i H => ∃ (xs : List V) (x : V), SqT K H a xs ∧ xs[i]? = some x,
   fun i H v H' => ∃ T x, v = .ref T ∧ H T = none ∧ H' = upd H T (.tup [.int (i : Nat), x]) ∧ ∀ xs, SqT K H a xs → xs[i]? = some x,
   fun i H => ∃ xs : List V, SqT K H a xs ∧ xs.length = i⟩
theorem turn_enumT {P : Program} {w : World} {K : PySem.W.Frag} {elts : List Expr} {kk : Nat} {tpos : Pos} (a e it : Addr) (hea : e ≠ a) (hia : it ≠ a) :
    Turn P w K (.Tuple elts kk tpos) (ItE K a) [e, it] e (fun i h => (∃ old, IsEnum h e it ((i : Nat) : Int) old) ∧ h.IsTupleIter it a i ∧ e ≠ it) where
  mem := by simp
  obj := fun i h st b hb => by
    obtain ⟨⟨old, he⟩, ⟨o, ho, hc, hd⟩, _⟩ := st
    rcases (by simpa using hb : b = e ∨ b = it) with z | z
    · subst z; exact ⟨_, he, fun v q => nomatch q⟩
    · subst z; exact ⟨o, ho, fun v q => by rw [hd] at q; cases q⟩
  keep := fun i h h' st k => let ⟨⟨old, he⟩, hi, hne⟩ := st; ⟨⟨old, k e (by simp) _ he⟩, hi.at fun o q => k it (by simp) o q, hne⟩
  item := by
    intro X hP hw hK hc i pins s σ H E I hf st hg
    subst hP hw hK
    obtain ⟨⟨old, he⟩, hit, hne⟩ := st
    obtain ⟨xs, x, hq, hx⟩ := hg
    obtain ⟨its, rv, p, hz⟩ := I.tuple hq
    obtain ⟨u, hu, ru⟩ := rv.get hx
    have hel : e < s.heap.objs.size := Heap.lt_size he
    have hil : it < s.heap.objs.size := by obtain ⟨_, q, _⟩ := hit; exact Heap.lt_size q
    have hlt : i < its.toArray.size := by
      have := (List.getElem?_eq_some_iff.mp hu).1
      simpa using this
    refine wpAny_pyNext_enum_itemD (Draws.tuple (A := X.A.in1) (show X.A.in1.handled = none from I.ok.hd hc) it a (Ne.symm hia) its.toArray) he ⟨hit, (show s.heap.IsTuple a its.toArray from p)⟩ hlt hne (by simp [hne, hea]) fun x' h' tk hx' ho hst' hT hsz hk => ?_
    have ex' : x' = u := by
      have h1 : its.toArray[i]? = some x' := hx'
      have h2 : its.toArray[i]? = some u := by simpa using hu
      rw [h1] at h2
      exact Option.some.inj h2
    subst ex'
    refine ⟨_, rfl, wpAny_letOwnedTupleGo_enum (s := { s with heap := h', toks := tk + 1 }) ho fun h'' he' sb => ?_⟩
    have hT2 : h''.get? s.heap.objs.size = some { cls := .type "tuple", data := .seq #[.int i tk, x'] } := (sb.2 _ (Nat.ne_of_gt hel)).trans hT
    have new : ObjOk X.prog X.w (upd H s.heap.objs.size (.tup [.int (i : Nat), x])) h'' s.heap.objs.size (.tup [.int (i : Nat), x]) :=
      ⟨by show 2 ≤ sizeLine; decide, [.int i tk, x'], .cons ⟨_, rfl⟩ (.cons ru .nil), ⟨_, hT2, rfl, _, rfl⟩⟩
    have I1 : Inv X pins σ (upd H s.heap.objs.size (.tup [.int (i : Nat), x])) { s with heap := h'', toks := tk + 1 } :=
      I.turnedNew (ch := [e, it]) (fun b ob hb q => (sb.2 b (fun z => hb (by simp [z]))).trans (hk b ob (fun z => hb (by simp [z])) (fun z => hb (by simp [z])) q)) hf (Nat.le_refl _) new
    refine ⟨.ref s.heap.objs.size, _, I1, rfl, ⟨_, x, rfl, I.hok.fresh (Nat.le_refl _), rfl, fun ys hy => by rw [I.tuple_inj hy hq]; exact hx⟩, ⟨⟨x', ?_⟩, hst'.1.at fun o q => (sb.2 it (Ne.symm hne)).trans q, hne⟩, fun b hb => ?_⟩
    · rw [show ((i + 1 : Nat) : Int) = (i : Int) + 1 by omega]
      exact he'
    · have hb' : b < s.heap.objs.size := by
        rcases (by simpa using hb : b = e ∨ b = it) with z | z
        · subst z; exact hel
        · subst z; exact hil
      rw [upd_ne (Nat.ne_of_lt hb')]
      exact (hf b hb).1
  done := by
    intro X hP hw hK hc i pins s σ H E I hf st hg
    subst hP hw hK
    obtain ⟨⟨old, he⟩, hit, hne⟩ := st
    obtain ⟨xs, hq, hx⟩ := hg
    obtain ⟨its, rv, p, hz⟩ := I.tuple hq
    obtain ⟨f0, f1, f2, f3, f4, f5⟩ := hf it (by simp)
    have hl := rv.length
    have hi : i = its.toArray.size := by
      rw [List.size_toArray]
      omega
    subst hi
    exact wpAny_pyNext_enum_endD (Draws.tuple (A := X.A.in1) (show X.A.in1.handled = none from I.ok.hd hc) it a (Ne.symm hia) its.toArray) he ⟨hit, (show s.heap.IsTuple a its.toArray from p)⟩ fun h' eb =>
      ⟨rfl, I.turned (t' := s.toks) (fun b o hb q => eb b o hb q) f0 f1 f3 f4 f5⟩
  self := fun A i s Q E st h => let ⟨⟨_, he⟩, _⟩ := st; wpAny_pyIter_enum he h
def iEnumT (K : PySem.W.Frag) (ta : TA) : TI := fun σ H R => ta σ H fun vs H1 => ∃ a xs, vs = [.ref a] ∧ SqT K H1 a xs ∧ R (ItE K a) H1
theorem pi_enumT {X : Cx} {e : Expr} {ta : TA} {p pos tpos : Pos} {elts : List Expr} {kk : Nat} (hg : Gl X "enumerate") (hm : X.mg "enumerate" = none) (ha : PA X [e] ta) (hs : starEach [e] X.env = [(false, eval e X.env)] := by rfl) :
    PI X (.Tuple elts kk tpos) (.Call (.Name "enumerate" p) [e] [] pos) (iEnumT X.K ta) := by
  refine ⟨fun pins s σ H R I h => ?_⟩
  refine PyProof.Rows.Call_ (ld_blt I hg hm PyProof.Rows.boot_enumerate (PyProof.Rows.callWith_type1 (thn (ha.run pos pins s σ H _ I h) fun us s1 ⟨vs, H1, I1, r1, q1⟩ => ?_) hs rfl))
  obtain ⟨a, xs, ex, hq, q⟩ := q1
  subst ex
  cases r1 with
  | cons r rr =>
    cases rr
    cases r
    obtain ⟨its, rv, p', hz⟩ := I1.tuple hq
    have ht : s1.heap.IsTuple a its.toArray := p'
    have hal : a < s1.heap.objs.size := by
      obtain ⟨o, ho, _⟩ := ht
      exact Heap.lt_size ho
    refine call_enum1 (begins_tuple a its.toArray) ht fun h' he hit hsz hk => wpAny_pyIter_enum he ?_
    have I2 : Inv X pins σ H1 { s1 with heap := h' } := I1.kept (t' := s1.toks) hk
    refine ⟨s1.heap.objs.size + 1, [s1.heap.objs.size + 1, s1.heap.objs.size], _, _, H1, rfl, I2, turn_enumT a (s1.heap.objs.size + 1) s1.heap.objs.size (Nat.ne_of_gt (Nat.lt_succ_of_lt hal)) (Nat.ne_of_gt hal), ⟨⟨.none, he⟩, ⟨_, hit, rfl, rfl⟩, Nat.succ_ne_self _⟩, fun b hb => ?_, q⟩
    have hle : s1.heap.objs.size ≤ b := by
      rcases (by simpa using hb : b = s1.heap.objs.size + 1 ∨ b = s1.heap.objs.size) with z | z
      · rw [z]; exact Nat.le_succ _
      · rw [z]; exact Nat.le_refl _
    exact I1.fpOk hle (I1.hok.fresh hle)
end FP
namespace FP
open PySem L2

section
variable {X : Cx} {W : WX} {tg e a b c : Expr} {F A Bf Cf : Rho → Rs RV} {As : Rho → Rs (List RV)} {p pos tpos : Pos}
/-- enumerate of a list or a tuple -/
def iEnumL (f : Rho → Rs RV) : Rho → Rs (List D) := fun ρ => (f ρ).bind fun r ρ1 => match view ρ1 r with
  | .lst ds => .ok (enumD 0 ds) (frz r ρ1)
  | _ => .err
def iEnumTF (f : Rho → Rs RV) : Rho → Rs (List D) := fun ρ => (f ρ).bind fun r ρ1 => match view ρ1 r with
  | .tup ds => .ok (enumD 0 ds) (frz r ρ1)
  | _ => .err
theorem yl_enumT {K : PySem.W.Frag} {a : Addr} {vs : List V} {B0 : Hp} {ds : List D} (h : SqT K B0 a vs) (r : RpL K B0 ds vs) : Yl K (ItE K a) B0 (enumD 0 ds) where
  go := fun i B H e1 e2 hi => by
    rw [enumD_len] at hi
    have hl := r.length
    exact ⟨vs, vs[i]'(by omega), (e1.trans e2).st h, by simp [show i < vs.length by omega]⟩
  stop := fun B H e1 e2 => ⟨vs, (e1.trans e2).st h, by rw [r.length, enumD_len]⟩
  yld := fun i B H x H' σ ρ d S e1 y hd => by
    obtain ⟨T, x', rfl, hT, rfl, y⟩ := y
    obtain ⟨e, h1, rfl⟩ := enumD_get hd
    obtain ⟨v, h2, h3⟩ := r.getD' h1
    have := y vs ((e1.trans S.ex).st h)
    rw [h2] at this; cases this
    refine ⟨_, S.newB hT, Step.newB S hT, T, _, rfl, SqT.of upd_same, RpL.cons ?_ (RpL.cons (Rp.up (e1.trans (Ex.new (S.notNew hT))) h3) RpL.nil)⟩
    show V.int _ = V.int _
    simp
theorem fi_enum {elts : List Expr} {kk : Nat} (hg : Gl X "enumerate") (hm : X.mg "enumerate" = none) (h : FE X W e F) (hs : starEach [e] X.env = (false, eval e X.env) :: starEach [] X.env := by rfl) :
    FI X W (.Tuple elts kk tpos) (.Call (.Name "enumerate" p) [e] [] pos) (iEnumL F) := by
  obtain ⟨t, pe, o⟩ := h.ex
  refine ⟨_, pi_enum hg hm (pa_cons pe pa_nil hs) hs, fun B H σ ρ R S post => ?_⟩
  refine o B H σ ρ _ S (post.bind0 fun r ρ1 B1 H1 S1 st1 f1 post1 v hv => ?_)
  split at post1
  · rename_i ds e1
    obtain ⟨B2, x2, S2, st2, rp, _⟩ := take1 S1 st1 hv
    rw [e1] at rp
    obtain ⟨a, vs, rfl, hs', hl⟩ := rp
    exact ⟨a, vs, rfl, S2.ex.sl (SqL.of hs'), post1 B2 H1 S2 st2 (f1.trans frz_fills) _ (yl_enum (SqL.of hs') hl)⟩
  · exact post1.elim
theorem fi_enumT {elts : List Expr} {kk : Nat} (hg : Gl X "enumerate") (hm : X.mg "enumerate" = none) (h : FE X W e F) (hs : starEach [e] X.env = (false, eval e X.env) :: starEach [] X.env := by rfl) :
    FI X W (.Tuple elts kk tpos) (.Call (.Name "enumerate" p) [e] [] pos) (iEnumTF F) := by
  obtain ⟨t, pe, o⟩ := h.ex
  refine ⟨_, pi_enumT hg hm (pa_cons pe pa_nil hs) hs, fun B H σ ρ R S post => ?_⟩
  refine o B H σ ρ _ S (post.bind0 fun r ρ1 B1 H1 S1 st1 f1 post1 v hv => ?_)
  split at post1
  · rename_i ds e1
    obtain ⟨a, vs, rfl, hs', hl⟩ := hv.titems S1 e1
    obtain ⟨B2, x2, S2, st2, rp, _⟩ := take1 S1 st1 hv
    rw [e1] at rp
    obtain ⟨a', vs', q1, hs2, hl2⟩ := rp
    cases q1
    exact ⟨a, vs', rfl, S2.ex.st hs2, post1 B2 H1 S2 st2 (f1.trans frz_fills) _ (yl_enumT hs2 hl2)⟩
  · exact post1.elim
/-- zip of two lists -/
def iZipF (f g : Rho → Rs RV) : Rho → Rs (List D) := fun ρ => (f ρ).bind fun r ρ1 => (g ρ1).bind fun q ρ2 => match view ρ2 r, view ρ2 q with
  | .lst ds, .lst es => .ok (zipD ds es) (frzs [r, q] ρ2)
  | _, _ => .err
theorem fi_zip {elts : List Expr} {kk : Nat} (hg : Gl X "zip") (hm : X.mg "zip" = none) (h : FE X W a A) (h' : FE X W b Bf) (hs2 : starEach [b] X.env = (false, eval b X.env) :: starEach [] X.env := by rfl)
    (hs : starEach [a, b] X.env = (false, eval a X.env) :: starEach [b] X.env := by rfl) (hpl : (backTo pos (starEach [b] X.env)).any (·.1) = false := by rfl) :
    FI X W (.Tuple elts kk tpos) (.Call (.Name "zip" p) [a, b] [] pos) (iZipF A Bf) := by
  obtain ⟨t, pe, o⟩ := h.ex
  obtain ⟨t', pe', o'⟩ := h'.ex
  refine ⟨_, pi_zip hg hm (pa_cons pe (pa_cons pe' pa_nil hs2) hs) hs hpl, fun B H σ ρ R S post => ?_⟩
  refine o B H σ ρ _ S (post.bind0 fun r ρ1 B1 H1 S1 st1 f1 post1 v hv => ?_)
  refine o' B1 H1 σ ρ1 _ S1 (post1.bind st1 f1 fun q ρ2 B2 H2 S2 st2 f2 post2 w hw => ?_)
  split at post2
  · rename_i ds es e1 e2
    have hvs := rvs_cons st1 st2 f2 hv (vs := [w]) (rs := [q]) ⟨⟨w, [], rfl, hw, rfl⟩, by
      cases q with
      | d _ => exact List.nodup_nil
      | slot _ => exact List.nodup_nil
      | own _ => exact List.nodup_cons.mpr ⟨List.not_mem_nil, List.nodup_nil⟩⟩
    obtain ⟨B3, x3, S3, st3, f3, rp, _, _⟩ := takes S2 (st1.trans st2) hvs.1 hvs.2
    obtain ⟨v1, r1, q1, rp1, w1, r2, q2, rp2, _⟩ := rp
    cases q1; cases q2
    rw [e1] at rp1
    rw [e2] at rp2
    obtain ⟨a1, vs1, rfl, g1, g2⟩ := rp1
    obtain ⟨a2, vs2, rfl, g3, g4⟩ := rp2
    exact ⟨a1, a2, vs1, vs2, rfl, S3.ex.sl (SqL.of g1), S3.ex.sl (SqL.of g3), post2 B3 H2 S3 st3 ((f1.trans f2).trans f3) _ (yl_zip (SqL.of g1) g2 (SqL.of g3) g4)⟩
  · exact post2.elim
def iRevF (f : Rho → Rs RV) : Rho → Rs (List D) := fun ρ => (f ρ).bind fun r ρ1 => match view ρ1 r with
  | .lst ds => .ok ds.reverse (frz r ρ1)
  | _ => .err
theorem fi_rev (hg : Gl X "reversed") (hm : X.mg "reversed" = none) (h : FE X W e F) (hs : starEach [e] X.env = (false, eval e X.env) :: starEach [] X.env := by rfl) : FI X W tg (.Call (.Name "reversed" p) [e] [] pos) (iRevF F) := by
  obtain ⟨t, pe, o⟩ := h.ex
  refine ⟨_, pi_reversed hg hm (pa_cons pe pa_nil hs) hs, fun B H σ ρ R S post => ?_⟩
  refine o B H σ ρ _ S (post.bind0 fun r ρ1 B1 H1 S1 st1 f1 post1 v hv => ?_)
  split at post1
  · rename_i ds e1
    obtain ⟨B2, x2, S2, st2, rp, _⟩ := take1 S1 st1 hv
    rw [e1] at rp
    obtain ⟨a, vs, rfl, hs', hl⟩ := rp
    exact ⟨a, vs, rfl, S2.ex.sl (SqL.of hs'), post1 B2 H1 S2 st2 (f1.trans frz_fills) _ (yl_rev (SqL.of hs') hl)⟩
  · exact post1.elim

/-! ## comprehensions -/
def W0 : WX := fun _ _ _ _ => False
def wipeR (ρ : Rho) : List Nat → Rho
  | [] => ρ
  | v :: vs => (wipeR ρ vs).set v none
/-- the block's own slots as they were ahead of it -/
def unwipe (ρ ρw : Rho) (vs : List Nat) : Rho := vs.foldl (fun r v => r.set v (ρ[v]?.getD none)) ρw
def lcL (g : D → Rho → Option Rho) (tt : Rho → Rs Bool) (elt : Rho → Rs RV) (vs : List Nat) : List D → Rho → List D → Option (List D × Rho)
  | [], ρ, acc => some (acc, ρ)
  | d :: ds, ρ, acc => match g d ρ with
    | none => none
    | some ρ1 => match tt ρ1 with
      | .ok true ρ2 => match elt ρ2 with
        | .ok r ρ3 => if acc.length < 100000 then lcL g tt elt vs ds (wipeR (frz r ρ3) vs) (acc ++ [view ρ3 r]) else none
        | _ => none
      | .ok false ρ2 => lcL g tt elt vs ds (wipeR ρ2 vs) acc
      | _ => none
def eLc (src : Rho → Rs (List D)) (g : D → Rho → Option Rho) (tt : Rho → Rs Bool) (elt : Rho → Rs RV) (vs : List Nat) : Rho → Rs RV := fun ρ => (src ρ).bind fun ds ρ1 => match lcL g tt elt vs ds (wipeR ρ1 vs) [] with
  | some (ys, ρw) => .ok (.own (.l ys)) (unwipe ρ1 ρw vs)
  | none => .err
end
end FP
namespace FP
open PySem L2

section
theorem wipeR_len (ρ : Rho) : ∀ vs : List Nat, (wipeR ρ vs).length = ρ.length
  | [] => rfl
  | v :: vs => by rw [wipeR, List.length_set, wipeR_len ρ vs]
theorem wipeR_out {ρ : Rho} {i : Nat} : ∀ {vs : List Nat}, i ∉ vs → (wipeR ρ vs)[i]? = ρ[i]?
  | [], _ => rfl
  | v :: vs, h => by
    have h1 : v ≠ i := fun z => h (by simp [z])
    rw [wipeR, List.getElem?_set_ne h1]
    exact wipeR_out fun z => h (List.mem_cons_of_mem _ z)
theorem wipeR_some {ρ : Rho} {i : Nat} {x : SV} : ∀ {vs : List Nat}, (wipeR ρ vs)[i]? = some (some x) → i ∉ vs
  | [], _ => List.not_mem_nil
  | v :: vs, h => by
    rw [wipeR] at h
    by_cases hv : v = i
    · subst hv
      by_cases hl : v < (wipeR ρ vs).length
      · rw [List.getElem?_set_self hl] at h; cases h
      · rw [List.getElem?_eq_none (by rw [List.length_set]; omega)] at h; cases h
    · rw [List.getElem?_set_ne hv] at h
      exact fun z => (List.mem_cons.mp z).elim (fun q => hv q.symm) (wipeR_some h)
theorem unwipe_len (ρ : Rho) : ∀ (vs : List Nat) (ρw : Rho), (unwipe ρ ρw vs).length = ρw.length
  | [], _ => rfl
  | v :: vs, ρw => by
    show (unwipe ρ (ρw.set v (ρ[v]?.getD none)) vs).length = _
    rw [unwipe_len ρ vs, List.length_set]
theorem unwipe_out {ρ : Rho} {i : Nat} : ∀ {vs : List Nat} {ρw : Rho}, i ∉ vs → (unwipe ρ ρw vs)[i]? = ρw[i]?
  | [], _, _ => rfl
  | v :: vs, ρw, h => by
    show (unwipe ρ (ρw.set v (ρ[v]?.getD none)) vs)[i]? = _
    rw [unwipe_out (vs := vs) (fun z => h (List.mem_cons_of_mem _ z)), List.getElem?_set_ne (fun z => h (by simp [z]))]
theorem unwipe_in {ρ : Rho} {i : Nat} : ∀ {vs : List Nat} {ρw : Rho}, i ∈ vs → ρw.length = ρ.length → (unwipe ρ ρw vs)[i]? = ρ[i]?
  | v :: vs, ρw, h, hl => by
    show (unwipe ρ (ρw.set v (ρ[v]?.getD none)) vs)[i]? = _
    by_cases hv : i ∈ vs
    · exact unwipe_in hv (by rw [List.length_set]; exact hl)
    · rw [unwipe_out hv]
      have e : i = v := (List.mem_cons.mp h).elim id fun z => absurd z hv
      subst e
      by_cases hi : i < ρw.length
      · rw [List.getElem?_set_self hi]
        have : i < ρ.length := by omega
        simp [this]
      · rw [List.getElem?_eq_none (by rw [List.length_set]; omega), List.getElem?_eq_none (by omega)]
theorem wipe_ext {σ σ' : St} {vs : List Nat} (h : Outs vs (wipe σ vs) σ') : wipe σ' vs = wipe σ vs := by
  apply List.ext_getElem?
  intro j
  by_cases hj : j ∈ vs
  · have hl := h.1
    rw [wipe_length] at hl
    have key : ∀ τ : St, τ.length = σ.length → (wipe τ vs)[j]? = if j < σ.length then some none else none := by
      intro τ hτ
      by_cases hjl : j < σ.length
      · rw [if_pos hjl]
        have : j < (wipe τ vs).length := by rw [wipe_length]; omega
        cases e : (wipe τ vs)[j]? with
        | none => exact absurd (List.getElem?_eq_none_iff.mp e) (by omega)
        | some o =>
          cases o with
          | none => rfl
          | some x => exact absurd hj (wipe_some e).2
      · rw [if_neg hjl]
        exact List.getElem?_eq_none (by rw [wipe_length]; omega)
    rw [key σ' hl, key σ rfl]
  · rw [wipe_out hj, h.2 j hj, wipe_out hj]
variable {K : PySem.W.Frag} {B H : Hp} {σ : St} {ρ : Rho}
theorem wiped_own {vs : List Nat} {a : Addr} (h : OwnAt (wipe σ vs) (wipeR ρ vs) a) : ∃ i, i ∉ vs ∧ ∃ sv : SV, ρ[i]? = some (some sv) ∧ sv.owned = true ∧ σ[i]? = some (some (.ref a)) := by
  obtain ⟨i, sv, h1, h2, h3⟩ := h
  have hi := wipeR_some h1
  rw [wipeR_out hi] at h1
  rw [wipe_out hi] at h3
  exact ⟨i, hi, sv, h1, h2, h3⟩
theorem SR.wiped (S : SR K B H σ ρ) (vs : List Nat) : SR K B H (wipe σ vs) (wipeR ρ vs) where
  ex := S.ex
  len := by rw [wipe_length, wipeR_len]; exact S.len
  slot := fun i sv h => by
    have hi := wipeR_some h
    rw [wipeR_out hi] at h
    obtain ⟨v, e1, e2⟩ := S.slot i sv h
    exact ⟨v, by rw [wipe_out hi]; exact e1, e2⟩
  dis := fun i j sv sv' a h1 o1 h2 o2 h3 h4 => by
    have hi := wipeR_some h1
    have hj := wipeR_some h2
    rw [wipeR_out hi] at h1
    rw [wipeR_out hj] at h2
    rw [wipe_out hi] at h3
    rw [wipe_out hj] at h4
    exact S.dis i j sv sv' a h1 o1 h2 o2 h3 h4
/-- a cell that nobody of the state holds is changed -/
theorem SR.aside (S : SR K B H σ ρ) {a : Addr} {o : HO} (hB : B a = none) (ho : ¬ OwnAt σ ρ a) : SR K B (upd H a o) σ ρ where
  ex := fun b u e => by
    have hne : b ≠ a := by rintro rfl; rw [hB] at e; cases e
    rw [upd_ne hne]; exact S.ex b u e
  len := S.len
  slot := fun i sv h => by
    obtain ⟨v, e1, e2⟩ := S.slot i sv h
    refine ⟨v, e1, e2.later (Ex.refl _) (fun ow b u hb g1 g2 => ⟨?_, g2⟩) fun _ b _ c f1 _ => ⟨f1, upd_ne fun z => by rw [z, hB] at f1; cases f1⟩⟩
    have hne : b ≠ a := by
      rintro rfl
      exact ho ⟨i, sv, h, ow, by rw [e1, hb]⟩
    rw [upd_ne hne]; exact g1
  dis := S.dis
/-- the trees of others stay -/
def LcGh (B1 H1 : Hp) (σ : St) (ρ1 : Rho) (B' H' : Hp) (ρ' : Rho) : Prop := ∀ c r, B1 c = some (.own r) → H1 r ≠ none → ¬ OwnAt σ ρ1 r → B' c = some (.own r) ∧ H' c = H1 c ∧ ¬ OwnAt σ ρ' r

variable {X : Cx} {W : WX} {pos : Pos}
/-- the tests of a clause: none, or one -/
structure FTs (X : Cx) (W : WX) (es : List Expr) (F : Rho → Rs Bool) : Prop where
  ex : ∃ tt, PTs X es tt ∧ ∀ B H σ ρ Q, SR X.K B H σ ρ → Post X.K W B H σ ρ (fun _ H' _ b => Q b H') (F ρ) → tt σ H Q
def tYesF : Rho → Rs Bool := fun ρ => .ok true ρ
theorem fts_nil : FTs X W [] tYesF := ⟨_, pts_nil, fun B H σ ρ Q S post => post B H S Step.refl Fills.refl⟩
theorem fts_one {c : Expr} {T : Rho → Rs Bool} (h : FT X W c T) : FTs X W [c] T := by
  obtain ⟨t, p, o⟩ := h.ex
  exact ⟨_, pts_one p, o⟩

theorem lc_sem {wi : TI} {g : TG} {tt : TT} {te : TE} {vs ws : List Nat} {src : Rho → Rs (List D)} {G : D → Rho → Option Rho} {T : Rho → Rs Bool} {E : Rho → Rs RV}
    (oi : ∀ B H σ ρ R, SR K B H σ ρ → Post K W B H σ ρ (fun B' H' _ ds => ∀ J, Yl K J B' ds → R J H') (src ρ) → wi σ H R)
    (og : ∀ B H σ ρ d v (Q : St → Hp → Prop), SR K B H σ ρ → Rp K B d v → (∃ ρ', G d ρ = some ρ' ∧ ∀ σ', SR K B H σ' ρ' → (∀ a, OwnAt σ' ρ' a → OwnAt σ ρ a) → Outs ws σ σ' → Q σ' H) → g v σ H Q)
    (ot : ∀ B H σ ρ Q, SR K B H σ ρ → Post K W0 B H σ ρ (fun _ H' _ b => Q b H') (T ρ) → tt σ H Q)
    (oe : ∀ B H σ ρ Q, SR K B H σ ρ → Post K W0 B H σ ρ (fun B' H' ρ' r => ∀ v, RVr K H B' H' σ ρ' r v → Q v H') (E ρ) → te σ H Q)
    (hout : ∀ d ρ ρ', G d ρ = some ρ' → ∀ j, j ∉ ws → ρ'[j]? = ρ[j]?) (hws : ∀ j, j ∈ ws → j ∈ vs) :
    ∀ B H σ ρ Q, SR K B H σ ρ → Post K W B H σ ρ (fun B' H' ρ' r => ∀ v, RVr K H B' H' σ ρ' r v → Q v H') (eLc src G T E vs ρ) → tLc wi g tt te vs σ H Q := fun B H σ ρ Q S post => by
  refine oi B H σ ρ _ S (post.bind0 fun ds ρ1 B1 H1 S1 st1 f1 post1 J yl => ?_)
  intro Dl hDl
  cases elc : lcL G T E vs ds (wipeR ρ1 vs) [] with
  | none => rw [elc] at post1; exact post1.elim
  | some res =>
    obtain ⟨ys, ρf⟩ := res
    rw [elc] at post1
    have nB1 : B1 Dl = none := S1.notNew hDl
    have nO1 : ¬ OwnAt σ ρ1 Dl := S1.notOwn hDl
    -- what holds between two turns
    refine ⟨fun i m H' => m = ds.length - i ∧ i ≤ ds.length ∧ ∃ B' ρw acc vacc, SR K B' H' (wipe σ vs) ρw ∧ Ex B1 B' ∧ RpL K B' acc vacc ∧ H' Dl = some (.lst vacc) ∧ B' Dl = none ∧ ¬ OwnAt (wipe σ vs) ρw Dl ∧
        (∀ a o, a ≠ Dl → H1 a = some o → B1 a = none → ¬ OwnAt (wipe σ vs) (wipeR ρ1 vs) a → H' a = some o ∧ B' a = none ∧ ¬ OwnAt (wipe σ vs) ρw a) ∧ ((∀ a, H' a = none → H1 a = none) ∧ LcGh B1 H1 (wipe σ vs) (wipeR ρ1 vs) B' H' ρw) ∧
        (∀ j, j ∉ vs → ∀ sv : SV, ρ1[j]? = some (some sv) → sv.isT = false → ∃ sv' : SV, ρw[j]? = some (some sv') ∧ sv'.isT = false) ∧ lcL G T E vs (ds.drop i) ρw acc = some (ys, ρf), ⟨ds.length, by simp, Nat.zero_le _, B1, wipeR ρ1 vs, [], [], ?_⟩, ?_⟩
    · refine ⟨(S1.wiped vs).new hDl, Ex.refl _, RpL.nil, upd_same, nB1, fun z => ?_, fun a o hne e1 e2 e3 => ⟨by rw [upd_ne hne]; exact e1, e2, e3⟩, ⟨fun a h => ?_, fun c r f1 _ f3 => ⟨f1, upd_ne (fun z => by rw [z, nB1] at f1; cases f1), f3⟩⟩, fun j hj sv e nt => ⟨sv, by rw [wipeR_out hj]; exact e, nt⟩, by simpa using elc⟩
      · obtain ⟨i, _, sv, g1, g2, g3⟩ := wiped_own z
        exact nO1 ⟨i, sv, g1, g2, g3⟩
      · by_cases hne : a = Dl
        · subst hne; exact hDl
        · rw [upd_ne hne] at h; exact h
    · rintro i m H' ⟨rfl, hi, B', ρw, acc, vacc, S', x', rp, hD, nB, nO, fr, dom, wp, elc'⟩
      by_cases hlt : i < ds.length
      · right
        obtain ⟨d, hd⟩ : ∃ d, ds[i]? = some d := ⟨ds[i], by simp [hlt]⟩
        have hdrop : ds.drop i = d :: ds.drop (i + 1) := by
          have h1 := (List.getElem?_eq_some_iff.mp hd).2
          rw [List.drop_eq_getElem_cons hlt, h1]
        rw [hdrop, lcL] at elc'
        refine ⟨yl.go i B' H' x' S'.ex hlt, fun H2 => ∃ m', m' < ds.length - i ∧ (m' = ds.length - (i + 1) ∧ i + 1 ≤ ds.length ∧ ∃ B' ρw acc vacc, SR K B' H2 (wipe σ vs) ρw ∧ Ex B1 B' ∧ RpL K B' acc vacc ∧ H2 Dl = some (.lst vacc) ∧ B' Dl = none ∧ ¬ OwnAt (wipe σ vs) ρw Dl ∧
          (∀ a o, a ≠ Dl → H1 a = some o → B1 a = none → ¬ OwnAt (wipe σ vs) (wipeR ρ1 vs) a → H2 a = some o ∧ B' a = none ∧ ¬ OwnAt (wipe σ vs) ρw a) ∧ ((∀ a, H2 a = none → H1 a = none) ∧ LcGh B1 H1 (wipe σ vs) (wipeR ρ1 vs) B' H2 ρw) ∧
          (∀ j, j ∉ vs → ∀ sv : SV, ρ1[j]? = some (some sv) → sv.isT = false → ∃ sv' : SV, ρw[j]? = some (some sv') ∧ sv'.isT = false) ∧ lcL G T E vs (ds.drop (i + 1)) ρw acc = some (ys, ρf)), fun H2 h => h, fun x H2 hy => ?_⟩
        obtain ⟨B2, S2, st2, rx⟩ := yl.yld i B' H' x H2 (wipe σ vs) ρw d S' x' hy hd
        cases eg : G d ρw with
        | none => rw [eg] at elc'; cases elc'
        | some ρ3 =>
          rw [eg] at elc'
          dsimp only at elc'
          refine og B2 H2 (wipe σ vs) ρw d x _ S2 rx ⟨ρ3, eg, fun σ3 S3 own3 out3 => ?_⟩
          have hw3 : wipe σ3 vs = wipe σ vs := wipe_ext ⟨out3.1, fun j hj => out3.2 j fun z => hj (hws j z)⟩
          refine ⟨hw3, ?_⟩
          -- from the turn's start to the target's store
          have st3 : Step B' H' (wipe σ vs) ρw B2 H2 σ3 ρ3 := st2.own own3
          -- what a later state of this turn, wiped again, gives
          have next : ∀ {B5 H5 : Hp} {ρ5 : Rho} {acc' : List D} {vacc' : List V} {H6 : Hp}, SR K B5 H5 σ3 ρ5 → Fills ρ3 ρ5 → Step B' H' (wipe σ vs) ρw B5 H5 σ3 ρ5 → (H6 = H5 ∨ ∃ u, H6 = upd H5 Dl u) → RpL K B5 acc' vacc' → H6 Dl = some (.lst vacc') →
              lcL G T E vs (ds.drop (i + 1)) (wipeR ρ5 vs) acc' = some (ys, ρf) →
              ∃ m', m' < ds.length - i ∧ (m' = ds.length - (i + 1) ∧ i + 1 ≤ ds.length ∧ ∃ B' ρw acc vacc, SR K B' H6 (wipe σ vs) ρw ∧ Ex B1 B' ∧ RpL K B' acc vacc ∧ H6 Dl = some (.lst vacc) ∧ B' Dl = none ∧ ¬ OwnAt (wipe σ vs) ρw Dl ∧
                (∀ a o, a ≠ Dl → H1 a = some o → B1 a = none → ¬ OwnAt (wipe σ vs) (wipeR ρ1 vs) a → H6 a = some o ∧ B' a = none ∧ ¬ OwnAt (wipe σ vs) ρw a) ∧ ((∀ a, H6 a = none → H1 a = none) ∧ LcGh B1 H1 (wipe σ vs) (wipeR ρ1 vs) B' H6 ρw) ∧
                (∀ j, j ∉ vs → ∀ sv : SV, ρ1[j]? = some (some sv) → sv.isT = false → ∃ sv' : SV, ρw[j]? = some (some sv') ∧ sv'.isT = false) ∧ lcL G T E vs (ds.drop (i + 1)) ρw acc = some (ys, ρf)) := by
            intro B5 H5 ρ5 acc' vacc' H6 S5 f35 st5 h6 rp5 hD6 elc5
            obtain ⟨q1, q2, q3⟩ := st5.fr Dl _ hD nB nO
            have nOw : ¬ OwnAt (wipe σ vs) (wipeR ρ5 vs) Dl := fun z => by
              rw [← hw3] at z
              obtain ⟨k, _, sv, g1, g2, g3⟩ := wiped_own z
              exact q3 ⟨k, sv, g1, g2, g3⟩
            have Sw : SR K B5 H5 (wipe σ vs) (wipeR ρ5 vs) := by
              have := S5.wiped vs
              rwa [hw3] at this
            refine ⟨ds.length - (i + 1), by omega, rfl, hlt, B5, wipeR ρ5 vs, acc', vacc', ?_, x'.trans st5.bb, rp5, hD6, q2, nOw, fun a o hne e1 e2 e3 => ?_, ⟨fun a h => ?_, fun c r e1 e2 e3 => ?_⟩, fun j hj sv e nt => ?_, elc5⟩
            · rcases h6 with rfl | ⟨u, rfl⟩
              · exact Sw
              · exact Sw.aside q2 nOw
            · obtain ⟨g1, g2, g3⟩ := fr a o hne e1 e2 e3
              obtain ⟨g4, g5, g6⟩ := st5.fr a o g1 g2 g3
              refine ⟨?_, g5, fun z => ?_⟩
              · rcases h6 with rfl | ⟨u, rfl⟩
                · exact g4
                · rw [upd_ne hne]; exact g4
              · rw [← hw3] at z
                obtain ⟨k, _, sv, f1, f2, f3⟩ := wiped_own z
                exact g6 ⟨k, sv, f1, f2, f3⟩
            · refine dom.1 a (st5.dom a ?_)
              rcases h6 with rfl | ⟨u, rfl⟩
              · exact h
              · by_cases hne : a = Dl
                · subst hne; rw [upd_same] at h; cases h
                · rw [upd_ne hne] at h; exact h
            · obtain ⟨g1, g2, g3⟩ := dom.2 c r e1 e2 e3
              obtain ⟨g4, g5, g6⟩ := st5.gh c r g1 (fun z => e2 (dom.1 r z)) g3
              refine ⟨g4, ?_, fun z => ?_⟩
              · rw [← g2, ← g5]
                rcases h6 with rfl | ⟨u, rfl⟩
                · rfl
                · exact upd_ne fun z => by rw [z, q2] at g4; cases g4
              · rw [← hw3] at z
                obtain ⟨k, _, sv, f1, f2, f3⟩ := wiped_own z
                exact g6 ⟨k, sv, f1, f2, f3⟩
            · obtain ⟨sv1, g1, nt1⟩ := wp j hj sv e nt
              have g2 := hout d ρw ρ3 eg j fun z => hj (hws j z)
              obtain ⟨sv2, g3, nt2⟩ := f35 j sv1 (g2.trans g1) nt1
              exact ⟨sv2, by rw [wipeR_out hj]; exact g3, nt2⟩
          -- the test
          refine ot B2 H2 σ3 ρ3 _ S3 ?_
          cases et : T ρ3 with
          | err => rw [et] at elc'; cases elc'
          | exc _ _ => rw [et] at elc'; cases elc'
          | ok k ρ4 =>
            rw [et] at elc'
            intro B4 H4 S4 st4 f4
            have st34 := st3.trans st4
            cases k with
            | false =>
              obtain ⟨q1, _, _⟩ := st34.fr Dl _ hD nB nO
              exact next S4 f4 st34 (.inl rfl) (RpL.up st34.bb rp) q1 elc'
            | true =>
              show te σ3 H4 _
              dsimp only at elc'
              refine oe B4 H4 σ3 ρ4 _ S4 ?_
              cases ee : E ρ4 with
              | err => rw [ee] at elc'; cases elc'
              | exc _ _ => rw [ee] at elc'; cases elc'
              | ok r ρ5 =>
                rw [ee] at elc'
                intro B5 H5 S5 st5 f5 v hv
                dsimp only at elc'
                split at elc'
                · rename_i hl
                  obtain ⟨B6, x6, S6, st6, rp6, _⟩ := take1 S5 (Step.refl.trans st5) hv
                  have st36 := st34.trans st6
                  obtain ⟨q1, q2, q3⟩ := st36.fr Dl _ hD nB nO
                  refine ⟨vacc, q1, line_lt (by rw [rp.length]; exact hl), ?_⟩
                  exact next S6 (f4.trans (f5.trans frz_fills)) st36 (.inr ⟨_, rfl⟩) ((RpL.up st36.bb rp).append (RpL.cons rp6 RpL.nil)) upd_same elc'
                · cases elc'
      · left
        have e : i = ds.length := by omega
        subst e
        rw [List.drop_length] at elc'
        have elc2 : some (acc, ρw) = some (ys, ρf) := elc'
        obtain ⟨rfl, rfl⟩ : ys = acc ∧ ρf = ρw := by
          have := Option.some.inj elc2
          exact ⟨(Prod.mk.inj this).1.symm, (Prod.mk.inj this).2.symm⟩
        refine ⟨yl.stop B' H' x' S'.ex, ?_⟩
        have hlen : ρf.length = ρ1.length := by rw [← S'.len, wipe_length, S1.len]
        -- the hidden cells
        have hid : ∀ j, j ∈ vs → ∀ (sv : SV) (a : Addr), ρ1[j]? = some (some sv) → sv.owned = true → σ[j]? = some (some (.ref a)) → ∀ o, H1 a = some o → B1 a = none → H' a = some o ∧ B' a = none ∧ ¬ OwnAt (wipe σ vs) ρf a := fun j hj sv a e1 e2 e3 o g1 g2 => by
          refine fr a o (fun z => ?_) g1 g2 fun z => ?_
          · subst z; rw [hDl] at g1; cases g1
          · obtain ⟨k, hk, sv', f1, f2, f3⟩ := wiped_own z
            have := S1.dis j k sv sv' a e1 e2 f1 f2 e3 f3
            subst this
            exact hk hj
        have Sf : SR K B' H' σ (unwipe ρ1 ρf vs) := by
          refine ⟨S'.ex, by rw [unwipe_len, hlen]; exact S1.len, fun j sv e => ?_, fun j k sv sv' a e1 o1 e2 o2 e3 e4 => ?_⟩
          · by_cases hj : j ∈ vs
            · rw [unwipe_in hj hlen] at e
              obtain ⟨v, g1, g2⟩ := S1.slot j sv e
              refine ⟨v, g1, g2.later x' (fun ow a o hv h1 h2 => ?_) fun t a hv c h1 h2 => ?_⟩
              · obtain ⟨q1, q2, _⟩ := hid j hj sv a e ow (by rw [g1, hv]) o h1 h2
                exact ⟨q1, q2⟩
              · have ow : sv.owned = true := by cases sv <;> first | rfl | cases t
                obtain ⟨q1, q2, _⟩ := dom.2 c a h1 h2 fun z => by
                  obtain ⟨k, hk, sv', f1, f2, f3⟩ := wiped_own z
                  have := S1.dis j k sv sv' a e ow f1 f2 (by rw [g1, hv]) f3
                  subst this
                  exact hk hj
                exact ⟨q1, q2⟩
            · rw [unwipe_out hj] at e
              obtain ⟨v, g1, g2⟩ := S'.slot j sv e
              rw [wipe_out hj] at g1
              exact ⟨v, g1, g2⟩
          · by_cases hj : j ∈ vs
            · rw [unwipe_in hj hlen] at e1
              obtain ⟨v1, g1, g2⟩ := S1.slot j sv e1
              rw [e3] at g1; cases g1
              obtain ⟨a', u, q1, q2, q3⟩ := g2.cell o1
              cases q1
              by_cases hk : k ∈ vs
              · rw [unwipe_in hk hlen] at e2
                exact S1.dis j k sv sv' a e1 o1 e2 o2 e3 e4
              · rw [unwipe_out hk] at e2
                obtain ⟨_, _, q6⟩ := hid j hj sv a e1 o1 e3 u q2 q3
                exact absurd ⟨k, sv', e2, o2, by rw [wipe_out hk]; exact e4⟩ q6
            · rw [unwipe_out hj] at e1
              by_cases hk : k ∈ vs
              · rw [unwipe_in hk hlen] at e2
                obtain ⟨v1, g1, g2⟩ := S1.slot k sv' e2
                rw [e4] at g1; cases g1
                obtain ⟨a', u, q1, q2, q3⟩ := g2.cell o2
                cases q1
                obtain ⟨_, _, q6⟩ := hid k hk sv' a e2 o2 e4 u q2 q3
                exact absurd ⟨j, sv, e1, o1, by rw [wipe_out hj]; exact e3⟩ q6
              · rw [unwipe_out hk] at e2
                exact S'.dis j k sv sv' a e1 o1 e2 o2 (by rw [wipe_out hj]; exact e3) (by rw [wipe_out hk]; exact e4)
        have ownf : ∀ a, OwnAt σ (unwipe ρ1 ρf vs) a → OwnAt σ ρ1 a ∨ OwnAt (wipe σ vs) ρf a := fun a ⟨j, sv, e1, o1, e2⟩ => by
          by_cases hj : j ∈ vs
          · rw [unwipe_in hj hlen] at e1
            exact .inl ⟨j, sv, e1, o1, e2⟩
          · rw [unwipe_out hj] at e1
            exact .inr ⟨j, sv, e1, o1, by rw [wipe_out hj]; exact e2⟩
        have stf : Step B H σ ρ B' H' σ (unwipe ρ1 ρf vs) := by
          refine ⟨st1.bb.trans x', fun a o e1 e2 e3 => ?_, fun a h => st1.dom a (dom.1 a h), fun c r e1 e2 e3 => ?_⟩
          · obtain ⟨g1, g2, g3⟩ := st1.fr a o e1 e2 e3
            have hne : a ≠ Dl := by rintro rfl; rw [hDl] at g1; cases g1
            obtain ⟨q1, q2, q3⟩ := fr a o hne g1 g2 fun z => by
              obtain ⟨k, _, sv, f1, f2, f3⟩ := wiped_own z
              exact g3 ⟨k, sv, f1, f2, f3⟩
            exact ⟨q1, q2, fun z => (ownf a z).elim g3 q3⟩
          · obtain ⟨g1, g2, g3⟩ := st1.gh c r e1 e2 e3
            obtain ⟨q1, q2, q3⟩ := dom.2 c r g1 (fun z => e2 (st1.dom r z)) fun z => by
              obtain ⟨k, _, sv, f1, f2, f3⟩ := wiped_own z
              exact g3 ⟨k, sv, f1, f2, f3⟩
            exact ⟨q1, q2.trans g2, fun z => (ownf r z).elim g3 q3⟩
        have fif : Fills ρ (unwipe ρ1 ρf vs) := fun j sv h nt => by
          obtain ⟨sv1, h1, nt1⟩ := f1 j sv h nt
          by_cases hj : j ∈ vs
          · exact ⟨sv1, by rw [unwipe_in hj hlen]; exact h1, nt1⟩
          · obtain ⟨sv2, h2, nt2⟩ := wp j hj sv1 h1 nt1
            exact ⟨sv2, by rw [unwipe_out hj]; exact h2, nt2⟩
        refine post1 B' H' Sf stf fif _ ⟨rfl, ⟨Dl, vacc, rfl, nB, hD, rp⟩, rfl, Dl, rfl, st1.dom Dl hDl, fun z => (ownf Dl z).elim nO1 nO⟩
/-! ### one reading for all contexts with the same text -/
def teF (K : PySem.W.Frag) (W : WX) (F : Rho → Rs RV) : TE := fun σ H Q => ∃ B ρ, SR K B H σ ρ ∧ Post K W B H σ ρ (fun B' H' ρ' r => ∀ v, RVr K H B' H' σ ρ' r v → Q v H') (F ρ)
def ttF (K : PySem.W.Frag) (W : WX) (F : Rho → Rs Bool) : TT := fun σ H Q => ∃ B ρ, SR K B H σ ρ ∧ Post K W B H σ ρ (fun _ H' _ b => Q b H') (F ρ)
def tgF (K : PySem.W.Frag) (G : D → Rho → Option Rho) (ws : List Nat) : TG := fun v σ H Q => ∃ B ρ d, SR K B H σ ρ ∧ Rp K B d v ∧ ∃ ρ', G d ρ = some ρ' ∧ ∀ σ', SR K B H σ' ρ' → (∀ a, OwnAt σ' ρ' a → OwnAt σ ρ a) → Outs ws σ σ' → Q σ' H
theorem FE.one {e : Expr} {F : Rho → Rs RV} (h : FE X W e F) : PE X e (teF X.K W F) := by
  obtain ⟨t, p, o⟩ := h.ex
  exact ⟨fun pins s σ H Q I ⟨B, ρ, S, post⟩ => p.run pins s σ H Q I (o B H σ ρ Q S post)⟩
theorem FTs.one {e : List Expr} {F : Rho → Rs Bool} (h : FTs X W e F) : PTs X e (ttF X.K W F) := by
  obtain ⟨t, p, o⟩ := h.ex
  exact ⟨fun pins s σ H Q I ⟨B, ρ, S, post⟩ => p.run pins s σ H Q I (o B H σ ρ Q S post)⟩
theorem FG.one {e : Expr} {G : D → Rho → Option Rho} {ws : List Nat} (h : FG X e G ws) : PG X e (tgF X.K G ws) := by
  obtain ⟨t, p, o⟩ := h.ex
  exact ⟨fun pins s σ H v u Q I r ⟨B, ρ, d, S, rp, k⟩ => p.run pins s σ H v u Q I r (o B H σ ρ d v Q S rp k)⟩
/-- [elt for target in iter if ..] -/
theorem lc_all {own : List (Str × Nat)} {src : Rho → Rs (List D)} {G : D → Rho → Option Rho} {T : Rho → Rs Bool} {E : Rho → Rs RV} {ws : List Nat} {wi : TI}
    (oi : ∀ B H σ ρ R, SR X.K B H σ ρ → Post X.K W B H σ ρ (fun B' H' _ ds => ∀ J, Yl X.K J B' ds → R J H') (src ρ) → wi σ H R)
    (hout : ∀ d ρ ρ', G d ρ = some ρ' → ∀ j, j ∉ ws → ρ'[j]? = ρ[j]?) (hws : ∀ j, j ∈ ws → j ∈ own.map (·.2)) :
    ∀ B H σ ρ Q, SR X.K B H σ ρ → Post X.K W B H σ ρ (fun B' H' ρ' r => ∀ v, RVr X.K H B' H' σ ρ' r v → Q v H') (eLc src G T E (own.map (·.2)) ρ) → tLc wi (tgF X.K G ws) (ttF X.K W0 T) (teF X.K W0 E) (own.map (·.2)) σ H Q :=
  lc_sem oi (fun B H σ ρ d v Q S rp ⟨ρ', h1, h2⟩ => ⟨B, ρ, d, S, rp, ρ', h1, h2⟩) (fun B H σ ρ Q S post => ⟨B, ρ, S, post⟩) (fun B H σ ρ Q S post => ⟨B, ρ, S, post⟩) hout hws
theorem fe_lc {elt tg iter : Expr} {ifs : List Expr} {scope : Scope} {own : List (Str × Nat)} {src : Rho → Rs (List D)} {G : D → Rho → Option Rho} {T : Rho → Rs Bool} {E : Rho → Rs RV} {ws : List Nat}
    (hc : X.calm = true) (hN : X.N.Nodup) (hi : FI X W tg iter src) (ok : BlkOk X.N X.env.scope scope own)
    (hg : ∀ (s : Shared) (H : Hp) (C : Addr) (cl : List (Str × Addr)) (fp : List Addr), FG (X.blk s H scope (compEnvC scope cl C X.env) fp) tg G ws)
    (ht : ∀ (s : Shared) (H : Hp) (C : Addr) (cl : List (Str × Addr)) (fp : List Addr), FTs (X.blk s H scope (compEnvC scope cl C X.env) fp) W0 ifs T)
    (he : ∀ (s : Shared) (H : Hp) (C : Addr) (cl : List (Str × Addr)) (fp : List Addr), FE (X.blk s H scope (compEnvC scope cl C X.env) fp) W0 elt E)
    (hws : ∀ j, j ∈ ws → j ∈ own.map (·.2)) (hs : ∀ x, foldedSetIterable iter X.env x = pure x := by intro _; rfl) : FE X W (.ListComp elt [⟨tg, iter, ifs, 0⟩] scope pos) (eLc src G T E (own.map (·.2))) := by
  obtain ⟨wi, pi, oi⟩ := hi.ex
  have hout := (hg X.s_0 (fun _ => none) 0 [] []).out
  exact ⟨_, pe_lc hc hN pi ok (fun s H C cl fp => (hg s H C cl fp).one) (fun s H C cl fp => (ht s H C cl fp).one) (fun s H C cl fp => (he s H C cl fp).one) hs, lc_all oi hout hws⟩
/-- y = [elt for target in iter if ..] on one line -/
theorem fs_setLc {i : Nat} {y : Str} {py spos : Pos} {elt tg iter : Expr} {ifs : List Expr} {scope : Scope} {own : List (Str × Nat)} {src : Rho → Rs (List D)} {G : D → Rho → Option Rho} {T : Rho → Rs Bool} {E : Rho → Rs RV} {ws : List Nat}
    (hc : X.calm = true) (hN : X.N.Nodup) (hy : X.N[i]? = some y) (hyl : X.env.scope.names.lookup y = some .local) (hsw : swapsWith (.ListComp elt [⟨tg, iter, ifs, 0⟩] scope pos) (some (.Name y py)) spos.line X.env = pure true)
    (hi : FI X W tg iter src) (ok : BlkOk X.N X.env.scope scope own)
    (hg : ∀ (s : Shared) (H : Hp) (C : Addr) (cl : List (Str × Addr)) (fp : List Addr), FG (X.blk s H scope (compEnvC scope cl C X.env) fp) tg G ws)
    (ht : ∀ (s : Shared) (H : Hp) (C : Addr) (cl : List (Str × Addr)) (fp : List Addr), FTs (X.blk s H scope (compEnvC scope cl C X.env) fp) W0 ifs T)
    (he : ∀ (s : Shared) (H : Hp) (C : Addr) (cl : List (Str × Addr)) (fp : List Addr), FE (X.blk s H scope (compEnvC scope cl C X.env) fp) W0 elt E)
    (hws : ∀ j, j ∈ ws → j ∈ own.map (·.2)) (hs : ∀ x, foldedSetIterable iter X.env x = pure x := by intro _; rfl) : FS X W (.Assign [.Name y py] (.ListComp elt [⟨tg, iter, ifs, 0⟩] scope pos) spos) (sSet i (eLc src G T E (own.map (·.2)))) := by
  obtain ⟨wi, pi, oi⟩ := hi.ex
  have hout := (hg X.s_0 (fun _ => none) 0 [] []).out
  exact ⟨_, ps_setLc hc hN hy hyl hsw pi ok (fun s H C cl fp => (hg s H C cl fp).one) (fun s H C cl fp => (ht s H C cl fp).one) (fun s H C cl fp => (he s H C cl fp).one) hs, set_sem (lc_all oi hout hws)⟩
end
end FP
namespace FP
open PySem L2

/-! ## Defs: what they hand back for data -/
inductive Ret where
  | err | ok (sv : SV) | exc (x : Exn)
/-- behind a call: the base has grown, all else that stood stands -/
structure Kept (B H B' H' : Hp) : Prop where
  bb : Ex B B'
  ex : Ex B' H'
  fr : ∀ a o, H a = some o → B a = none → H' a = some o ∧ B' a = none
  dom : ∀ a, H' a = none → H a = none
  gh : ∀ a r, B a = some (.own r) → H r ≠ none → B' a = some (.own r) ∧ H' a = H a
def RetPost (K : PySem.W.Frag) (B H : Hp) (Q : VK) (E : XK) : Ret → Prop
  | .err => False
  | .ok sv => ∀ B' H' v, Kept B H B' H' → SVr K B' H' sv v → (sv.owned = true → sv.isT = false ∧ ∃ a, v = .ref a ∧ H a = none) → Q v H'
  | .exc x => ∀ B' H' cls d, Kept B H B' H' → XR K H B' H' x cls d → E cls d H'
def spF (K : PySem.W.Frag) (fn : List D → Ret) : Sp := fun vs H Q E => ∃ B ds, Ex B H ∧ RpL K B ds vs ∧ RetPost K B H Q E (fn ds)
/-- what a result holds -/
def svOf (ρ : Rho) : RV → SV
  | .d d => .p d
  | .own sv => sv
  | .slot i => match ρ[i]? with
    | some (some sv) => sv
    | _ => .p .non
def startR (n : Nat) (ds : List D) : Rho := ds.map (fun d => some (SV.p d)) ++ List.replicate (n - ds.length) none
/-- a def by its body's function; n names, k parameters -/
def runF (n k : Nat) (G : Rho → Out) (ds : List D) : Ret := if ds.length = k then match G (startR n ds) with
    | .nx _ => .ok (.p .non)
    | .rt r ρ => .ok (svOf ρ r)
    | .exc x _ => .exc x
    | _ => .err
  else .err
/-- .. where nothing is raised -/
def run0 (n k : Nat) (G : Rho → Out) (ds : List D) : Ret := if ds.length = k then match G (startR n ds) with
    | .nx _ => .ok (.p .non)
    | .rt r ρ => .ok (svOf ρ r)
    | _ => .err
  else .err
section
variable {K : PySem.W.Frag} {B H : Hp}
theorem start_sr {N : List Str} {ds : List D} {vs : List V} (ex : Ex B H) (r : RpL K B ds vs) : SR K B H (L2.start N vs) (startR N.length ds) where
  ex := ex
  len := by
    unfold L2.start startR
    simp [r.length]
  slot := fun i sv h => by
    unfold startR at h
    by_cases hi : i < ds.length
    · rw [List.getElem?_append_left (by simpa using hi), List.getElem?_map] at h
      obtain ⟨d, h1, h2⟩ := Option.map_eq_some_iff.mp h
      cases h2
      obtain ⟨v, h3, h4⟩ := r.getD' h1
      refine ⟨v, ?_, h4⟩
      unfold L2.start
      have hl := r.length
      rw [List.getElem?_append_left (by rw [List.length_map]; omega), List.getElem?_map, h3]
      rfl
    · rw [List.getElem?_append_right (by simpa using hi), List.getElem?_replicate] at h
      split at h <;> cases h
  dis := fun i j sv sv' a h1 o1 h2 o2 _ _ => by
    unfold startR at h1
    by_cases hi : i < ds.length
    · rw [List.getElem?_append_left (by simpa using hi), List.getElem?_map] at h1
      obtain ⟨d, _, h4⟩ := Option.map_eq_some_iff.mp h1
      cases h4
      cases o1
    · rw [List.getElem?_append_right (by simpa using hi), List.getElem?_replicate] at h1
      split at h1 <;> cases h1
theorem start_own {N : List Str} {ds : List D} {vs : List V} {a : Addr} : ¬ OwnAt (L2.start N vs) (startR N.length ds) a := by
  rintro ⟨i, sv, h1, o1, _⟩
  unfold startR at h1
  by_cases hi : i < ds.length
  · rw [List.getElem?_append_left (by simpa using hi), List.getElem?_map] at h1
    obtain ⟨d, _, h4⟩ := Option.map_eq_some_iff.mp h1
    cases h4
    cases o1
  · rw [List.getElem?_append_right (by simpa using hi), List.getElem?_replicate] at h1
    split at h1 <;> cases h1
theorem step_kept {N : List Str} {ds : List D} {vs : List V} {B' H' : Hp} {σ' : St} {ρ' : Rho} (st : Step B H (L2.start N vs) (startR N.length ds) B' H' σ' ρ') (ex : Ex B' H') : Kept B H B' H' :=
  ⟨st.bb, ex, fun a o h1 h2 => let ⟨g1, g2, _⟩ := st.fr a o h1 h2 start_own; ⟨g1, g2⟩, st.dom, fun a r h1 h2 => let ⟨g1, g2, _⟩ := st.gh a r h1 h2 start_own; ⟨g1, g2⟩⟩
end

section
variable {P : Program} {w : World} {K : PySem.W.Frag} {mg : Str → Option Value} {base : Heap}
/-- THE RULE of a def without exceptions: its body's function -/
theorem fn_ok {x qual : Str} {st : Stmt} {f : Addr} {fd : FuncData} {N ps : List Str} {k : Nat} {G : Rho → Out} (F : Fun K x qual st f fd) (S : FnScope N ps (defScope st))
    (hbody : ∀ (cdv : Value) (A : Around) (outer : List PySem.Env) (s : Shared) (H : Hp) (E : XK), Room k (A.deeper (PyProof.Rows.envOfC qual (defScope st) s.heap.objs.size f cdv)) →
      FB (cxOf CX0 P w K mg base N qual (defScope st) f cdv A outer s H E).nox W0 (defBody st) G) :
    FnOk P w K mg base CX0 (k + 1) f fd ps (spF K (run0 N.length ps.length G)) := by
  refine F.ok S (fun vs H Q E h => ?_) (fun cdv A outer s H vs Q E hr h => ?_)
  · obtain ⟨B, ds, _, r, post⟩ := h
    unfold run0 at post
    split at post
    · rename_i hl; rw [r.length, hl]
    · exact post.elim
  · obtain ⟨B, ds, ex, r, post⟩ := h
    obtain ⟨t, p, o⟩ := (hbody cdv A outer s H E hr).ex
    refine ⟨t, p, ?_⟩
    unfold run0 at post
    split at post
    · refine o B H (L2.start N vs) (startR N.length ds) _ (start_sr ex r) ?_
      cases eg : G (startR N.length ds) with
      | err => rw [eg] at post; exact post.elim
      | bk _ => rw [eg] at post; exact post.elim
      | ct _ => rw [eg] at post; exact post.elim
      | exc x ρ' => rw [eg] at post; exact post.elim
      | nx ρ' =>
        rw [eg] at post
        exact fun B' H' σ' S' st' => post B' H' .non (step_kept st' S'.ex) rfl (fun z => by cases z)
      | rt r ρ' =>
        rw [eg] at post
        intro B' H' σ' v S' st' hv
        have kp := step_kept st' S'.ex
        cases r with
        | d d => exact post B' H' v kp hv (fun z => by cases z)
        | own sv =>
          obtain ⟨h1, h2, nt, a, h3, h4, _⟩ := hv
          exact post B' H' v kp h2 fun _ => ⟨nt, a, h3, h4⟩
        | slot i =>
          obtain ⟨h1, sv, h2, nt⟩ := hv
          obtain ⟨v', h3, h4⟩ := S'.slot i sv h2
          rw [h1] at h3; cases h3
          have es : svOf ρ' (.slot i) = sv := by simp only [svOf, h2]
          replace post : RetPost K B H Q E (.ok (svOf ρ' (.slot i))) := post
          rw [es] at post
          refine post B' H' v kp h4 fun ow => ?_
          obtain ⟨a, u, q1, q2, q3⟩ := h4.cell ow
          refine ⟨nt, a, q1, ?_⟩
          cases e : H a with
          | none => rfl
          | some u' =>
            cases eB : B a with
            | none =>
              obtain ⟨_, _, g3⟩ := st'.fr a u' e eB start_own
              exact absurd ⟨i, sv, h2, ow, by rw [h1, q1]⟩ g3
            | some u2 =>
              exact absurd q3 (st'.bb a u2 eB).ne
    · exact post.elim
end
end FP
namespace FP
open PySem L2

/-! ## Calls -/
mutual
/-- no list, instance or dict within -/
def D.lf : D → Bool
  | .tup xs => lfL xs
  | .lst _ => false
  | .frz _ => false
  | .ins _ _ => false
  | .dct _ => false
  | .exn _ _ _ _ => false
  | _ => true
def lfL : List D → Bool
  | [] => true
  | d :: ds => d.lf && lfL ds
end
def SV.lf : SV → Bool
  | .t _ => false
  | .p d => d.lf
  | .l xs => lfL xs
  | .i _ fs => fs.all fun f => f.2.lf
  | .k kvs => kvs.all fun f => f.2.lf
  | .s _ _ fs => fs.all fun f => f.2.lf
  | .a _ xs => lfL xs
def rvOf : SV → RV
  | .p d => .d d
  | sv => .own sv
def ofRet (x : Ret) (rs : List RV) (ρ : Rho) : Rs RV := match x with
  | .ok sv => .ok (rvOf sv) (if sv.lf then ρ else frzs rs ρ)
  | _ => .err
def eCall (fn : List D → Ret) (as : Rho → Rs (List RV)) (dds : List D) : Rho → Rs RV := fun ρ => (as ρ).bind fun rs ρ1 => ofRet (fn (rs.map (view ρ1) ++ dds)) rs ρ1

section
variable {K : PySem.W.Frag} {B H B' H' : Hp} {σ : St} {ρ : Rho}
theorem SR.kept (S : SR K B H σ ρ) (k : Kept B H B' H') : SR K B' H' σ ρ where
  ex := k.ex
  len := S.len
  slot := fun i sv h => by
    obtain ⟨v, e1, e2⟩ := S.slot i sv h
    exact ⟨v, e1, e2.later k.bb (fun _ a o _ h1 h2 => k.fr a o h1 h2) fun _ a _ c h1 h2 => k.gh c a h1 h2⟩
  dis := S.dis
theorem Step.kept (k : Kept B H B' H') : Step B H σ ρ B' H' σ ρ :=
  ⟨k.bb, fun a o h1 h2 h3 => let ⟨g1, g2⟩ := k.fr a o h1 h2; ⟨g1, g2, h3⟩, k.dom, fun a r h1 h2 h3 => let ⟨g1, g2⟩ := k.gh a r h1 h2; ⟨g1, g2, h3⟩⟩
/-- a base without the cells that a set of addresses names -/
noncomputable def less (B : Hp) (A : Addr → Prop) : Hp := open Classical in fun a => if A a then none else B a
theorem less_in {A : Addr → Prop} {a : Addr} (h : A a) : less B A a = none := by
  unfold less; rw [if_pos h]
theorem less_out {A : Addr → Prop} {a : Addr} (h : ¬ A a) : less B A a = B a := by
  unfold less; rw [if_neg h]
theorem less_of {A : Addr → Prop} {a : Addr} {o : HO} (h : less B A a = some o) : B a = some o := by
  by_cases ha : A a
  · rw [less_in ha] at h; cases h
  · rwa [less_out ha] at h
theorem less_ex {A : Addr → Prop} : Ex (less B A) B := fun a o h => Kp.of (less_of h)
/-- what the named cells hold is no tuple -/
def Cells (H : Hp) (A : Addr → Prop) : Prop := ∀ a, A a → ∃ o, H a = some o ∧ (∀ xs, o ≠ .tup xs) ∧ ∀ ob u, o ≠ .frz ob u
mutual
theorem lf_less {A : Addr → Prop} (ex : Ex B H) (c : Cells H A) : ∀ {d : D} {v : V}, d.lf = true → Rp K B d v → Rp K (less B A) d v
  | .non, _, _, h => h
  | .bl _, _, _, h => h
  | .int _, _, _, h => h
  | .str _, _, _, h => h
  | .tup xs, _, l, ⟨a, vs, h1, h2, h3⟩ => by
    refine ⟨a, vs, h1, ?_, lfL_less ex c l h3⟩
    rcases h2 with (h2 | ⟨o, h2⟩) | h2
    · refine .inl (.inl ?_)
      have ha : ¬ A a := fun z => by
        obtain ⟨o, q1, q2, _⟩ := c a z
        rw [show H a = _ from ex a _ h2] at q1
        exact q2 _ (Option.some.inj q1).symm
      rw [less_out ha]; exact h2
    · refine .inl (.inr ⟨o, ?_⟩)
      have ha : ¬ A a := fun z => by
        obtain ⟨o', q1, _, q3⟩ := c a z
        rw [show H a = _ from ex a _ h2] at q1
        exact q3 _ _ (Option.some.inj q1).symm
      rw [less_out ha]; exact h2
    · exact .inr h2
  | .lst _, _, l, _ => by cases l
  | .frz _, _, l, _ => by cases l
  | .ins _ _, _, l, _ => by cases l
  | .dct _, _, l, _ => by cases l
  | .exn _ _ _ _, _, l, _ => by cases l
theorem lfL_less {A : Addr → Prop} (ex : Ex B H) (c : Cells H A) : ∀ {ds : List D} {vs : List V}, lfL ds = true → RpL K B ds vs → RpL K (less B A) ds vs
  | [], _, _, h => h
  | d :: ds, _, l, ⟨v, r, h1, h2, h3⟩ => by
    have l' : d.lf = true ∧ lfL ds = true := by simpa [lfL] using l
    exact ⟨v, r, h1, lf_less ex c l'.1 h2, lfL_less ex c l'.2 h3⟩
end
theorem lfF_less {A : Addr → Prop} (ex : Ex B H) (c : Cells H A) : ∀ {ds : List (Str × D)} {vs : List (Str × V)}, (ds.all fun f => f.2.lf) = true → RpF K B ds vs → RpF K (less B A) ds vs
  | [], _, _, h => h
  | (n, d) :: ds, _, l, ⟨v, r, h1, h2, h3⟩ => by
    have l' : d.lf = true ∧ (ds.all fun f => f.2.lf) = true := by simpa using l
    exact ⟨v, r, h1, lf_less ex c l'.1 h2, lfF_less ex c l'.2 h3⟩
theorem lfK_less {A : Addr → Prop} (ex : Ex B H) (c : Cells H A) : ∀ {ds : List (Key × D)} {vs : List (Key × V)}, (ds.all fun f => f.2.lf) = true → RpK K B ds vs → RpK K (less B A) ds vs
  | [], _, _, h => h
  | (n, d) :: ds, _, l, ⟨v, r, h1, h2, h3⟩ => by
    have l' : d.lf = true ∧ (ds.all fun f => f.2.lf) = true := by simpa using l
    exact ⟨v, r, h1, lf_less ex c l'.1 h2, lfK_less ex c l'.2 h3⟩
theorem sv_less {A : Addr → Prop} (ex : Ex B H) (c : Cells H A) {sv : SV} {v : V} (l : sv.lf = true) (h : SVr K B H sv v) : SVr K (less B A) H sv v := by
  have nn : ∀ a, B a = none → less B A a = none := fun a h => by
    cases e : less B A a with
    | none => rfl
    | some o => rw [less_of e] at h; cases h
  cases sv with
  | t xs => cases l
  | p d => exact lf_less ex c l h
  | l xs =>
    obtain ⟨a, vs, h1, h2, h3, h4⟩ := h
    exact ⟨a, vs, h1, nn a h2, h3, lfL_less ex c l h4⟩
  | i C fs =>
    obtain ⟨a, dx, vs, h1, h2, h3, h4⟩ := h
    exact ⟨a, dx, vs, h1, nn a h2, h3, lfF_less ex c l h4⟩
  | k kvs =>
    obtain ⟨a, vs, h1, h2, h3, h4⟩ := h
    exact ⟨a, vs, h1, nn a h2, h3, lfK_less ex c l h4⟩
  | s p C fs =>
    obtain ⟨h1, h2, dx, vs, h3, h4⟩ := h
    exact ⟨h1, nn p h2, dx, vs, h3, lfF_less ex c l h4⟩
  | a p xs =>
    obtain ⟨h1, h2, vs, h3, h4⟩ := h
    exact ⟨h1, nn p h2, vs, h3, lfL_less ex c l h4⟩
theorem SVr.obj {sv : SV} {a : Addr} (h : SVr K B H sv (.ref a)) (ow : sv.owned = true) : ∃ o, H a = some o ∧ (∀ xs, o ≠ .tup xs) ∧ ∀ ob u, o ≠ .frz ob u := by
  cases sv with
  | t xs =>
    obtain ⟨a', vs, cs, h1, h2, h3, h4⟩ := h
    cases h1
    exact ⟨_, h3, (fun _ z => by cases z), (fun _ _ z => by cases z)⟩
  | p d => cases ow
  | l xs =>
    obtain ⟨a', vs, h1, h2, h3, h4⟩ := h
    cases h1
    exact ⟨_, h3, (fun _ z => by cases z), (fun _ _ z => by cases z)⟩
  | i C fs =>
    obtain ⟨a', dx, vs, h1, h2, h3, h4⟩ := h
    cases h1
    exact ⟨_, h3, (fun _ z => by cases z), (fun _ _ z => by cases z)⟩
  | k kvs =>
    obtain ⟨a', vs, h1, h2, h3, h4⟩ := h
    cases h1
    exact ⟨_, h3, (fun _ z => by cases z), (fun _ _ z => by cases z)⟩
  | s p C fs =>
    obtain ⟨h1, h2, dx, vs, h3, h4⟩ := h
    cases h1
    exact ⟨_, h3, (fun _ z => by cases z), (fun _ _ z => by cases z)⟩
  | a p xs =>
    obtain ⟨h1, h2, vs, h3, h4⟩ := h
    cases h1
    exact ⟨_, h3, (fun _ z => by cases z), (fun _ _ z => by cases z)⟩
theorem SVr.ng {sv : SV} {a : Addr} {o : HO} (h : SVr K B H sv (.ref a)) (ow : sv.owned = true) (e : H a = some o) : NG o := by
  cases sv with
  | t xs =>
    obtain ⟨a', vs, cs, h1, h2, h3, h4⟩ := h
    cases h1; rw [h3] at e; cases e; exact fun _ z => nomatch z
  | p d => cases ow
  | l xs =>
    obtain ⟨a', vs, h1, h2, h3, h4⟩ := h
    cases h1; rw [h3] at e; cases e; exact fun _ z => nomatch z
  | i C fs =>
    obtain ⟨a', dx, vs, h1, h2, h3, h4⟩ := h
    cases h1; rw [h3] at e; cases e; exact fun _ z => nomatch z
  | k kvs =>
    obtain ⟨a', vs, h1, h2, h3, h4⟩ := h
    cases h1; rw [h3] at e; cases e; exact fun _ z => nomatch z
  | s p C fs =>
    obtain ⟨h1, h2, dx, vs, h3, h4⟩ := h
    cases h1; rw [h3] at e; cases e; exact fun _ z => nomatch z
  | a p xs =>
    obtain ⟨h1, h2, vs, h3, h4⟩ := h
    cases h1; rw [h3] at e; cases e; exact fun _ z => nomatch z
theorem rvOf_rvr {H0 : Hp} {sv : SV} {v : V} (h : SVr K B H sv v) (f : sv.owned = true → sv.isT = false ∧ ∃ a, v = .ref a ∧ H0 a = none ∧ ¬ OwnAt σ ρ a) : RVr K H0 B H σ ρ (rvOf sv) v := by
  cases sv with
  | t xs => exact absurd (f rfl).1 (by simp [SV.isT])
  | p d => exact h
  | l xs => exact ⟨rfl, h, f rfl⟩
  | i C fs => exact ⟨rfl, h, f rfl⟩
  | k kvs => exact ⟨rfl, h, f rfl⟩
  | s p C fs => exact ⟨rfl, h, f rfl⟩
  | a p xs => exact ⟨rfl, h, f rfl⟩
/-- behind the arguments: the call's wish from this state's -/
theorem call_post {W : WX} {Bs Hs : Hp} {ρs : Rho} {Q : VK} {rs : List RV} {vs dvs : List V} {dds : List D} {fn : List D → Ret} {E : XK} (S : SR K B H σ ρ) (st : Step Bs Hs σ ρs B H σ ρ) (fl : Fills ρs ρ) (hvs : RVs K Hs B H σ ρ rs vs) (hd : ∀ B, RpL K B dds dvs)
    (post : Post K W Bs Hs σ ρs (fun B' H' ρ' r => ∀ v, RVr K Hs B' H' σ ρ' r v → Q v H') (ofRet (fn (rs.map (view ρ) ++ dds)) rs ρ)) : spF K fn (vs ++ dvs) H Q E := by
  obtain ⟨B2, x2, S2, st2, f2, rp, new2, own2, gh2, nw2⟩ := takes S st hvs.1 hvs.2
  refine ⟨B2, _, S2.ex, rp.append (hd B2), ?_⟩
  cases ef : fn (rs.map (view ρ) ++ dds) with
  | err => rw [ef] at post; exact post.elim
  | exc x => rw [ef] at post; exact post.elim
  | ok sv =>
    rw [ef] at post
    intro B' H' v kp hsv hown
    unfold ofRet at post
    dsimp only at post
    cases hlf : sv.lf with
    | false =>
      rw [hlf] at post
      refine post B' H' (S2.kept kp) (st2.trans (Step.kept kp)) (fl.trans f2) v (rvOf_rvr hsv fun ow => ?_)
      obtain ⟨nt, a, h1, h2⟩ := hown ow
      exact ⟨nt, a, h1, st.dom a h2, S2.notOwn h2⟩
    | true =>
      rw [hlf] at post
      -- the cells that were lent
      let A : Addr → Prop := fun a => OwnAt σ ρ a ∧ ¬ OwnAt σ (frzs rs ρ) a
      have stay : ∀ a, OwnAt σ ρ a → ∃ o, H a = some o ∧ H' a = some o ∧ less B' A a = none ∧ (∀ xs, o ≠ .tup xs) ∧ ∀ ob u, o ≠ .frz ob u := by
        rintro a ⟨i, sv', h1, h2, h3⟩
        obtain ⟨v', e1, e2⟩ := S.slot i sv' h1
        rw [h3] at e1; cases e1
        obtain ⟨o, q1, q2, q3⟩ := e2.obj h2
        obtain ⟨a', u, c1, c2, c3⟩ := e2.cell h2
        cases c1
        by_cases ha : OwnAt σ (frzs rs ρ) a
        · obtain ⟨j, sv2, g1, g2, g3⟩ := ha
          obtain ⟨v2, g4, g5⟩ := S2.slot j sv2 g1
          rw [g3] at g4; cases g4
          obtain ⟨a2, u2, k1, k2, k3⟩ := g5.cell g2
          cases k1
          rw [k2] at q1; cases q1
          obtain ⟨m1, m2⟩ := kp.fr a _ k2 k3
          refine ⟨_, k2, m1, ?_, q2, q3⟩
          cases e : less B' A a with
          | none => rfl
          | some w => rw [less_of e] at m2; cases m2
        · refine ⟨o, q1, ?_, less_in ⟨⟨i, sv', h1, h2, h3⟩, ha⟩, q2, q3⟩
          cases eB : B2 a with
          | none => exact (kp.fr a o q1 eB).1
          | some u' =>
            obtain ⟨a2, u2, c4, c5, c6⟩ := e2.cell h2
            cases c4
            have z := nw2 a u' c6 eB
            rw [q1] at z; cases z
            have n := e2.ng h2 q1
            exact (kp.ex a _ ((kp.bb a _ eB).get n)).get n
      have cells : Cells H' A := fun a ha => by
        obtain ⟨o, _, q2, _, q4, q5⟩ := stay a ha.1
        exact ⟨o, q2, q4, q5⟩
      have bl : Ex B (less B' A) := fun a o h => by
        have ha : ¬ A a := fun z => by
          obtain ⟨i, sv', h1, h2, h3⟩ := z.1
          obtain ⟨v', e1, e2⟩ := S.slot i sv' h1
          rw [h3] at e1; cases e1
          obtain ⟨a', u, c1, c2, c3⟩ := e2.cell h2
          cases c1
          rw [h] at c3; cases c3
        rw [less_out ha]
        exact (x2.trans kp.bb) a o h
      have ghl : ∀ c r, B c = some (.own r) → H r ≠ none → less B' A c = some (.own r) ∧ H' c = H c := fun c r h1 h2 => by
        have hc : ¬ A c := fun z => by
          obtain ⟨i, sv', g1, g2, g3⟩ := z.1
          obtain ⟨v', e1, e2⟩ := S.slot i sv' g1
          rw [g3] at e1; cases e1
          obtain ⟨a', u, c1, c2, c3⟩ := e2.cell g2
          cases c1
          rw [h1] at c3; cases c3
        obtain ⟨m1, m2⟩ := kp.gh c r (gh2 c r h1) h2
        exact ⟨by rw [less_out hc]; exact m1, m2⟩
      have S3 : SR K (less B' A) H' σ ρ := by
        refine ⟨fun a o h => kp.ex a o (less_of h), S.len, fun i sv' h => ?_, S.dis⟩
        obtain ⟨v', e1, e2⟩ := S.slot i sv' h
        refine ⟨v', e1, e2.later bl (fun ow a o hv h1 h2 => ?_) fun _ a _ c h1 h2 => ghl c a h1 h2⟩
        obtain ⟨o', q1, q2, q3, _⟩ := stay a ⟨i, sv', h, ow, by rw [e1, hv]⟩
        rw [h1] at q1; cases q1
        exact ⟨q2, q3⟩
      have st3 : Step Bs Hs σ ρs (less B' A) H' σ ρ := by
        refine ⟨st.bb.trans bl, fun a o h1 h2 h3 => ?_, fun a h => st.dom a (kp.dom a h), fun c r h1 h2 h3 => ?_⟩
        · obtain ⟨g1, g2, g3⟩ := st.fr a o h1 h2 h3
          obtain ⟨k1, k2, k3⟩ := st2.fr a o h1 h2 h3
          obtain ⟨m1, m2⟩ := kp.fr a o k1 k2
          refine ⟨m1, ?_, g3⟩
          cases e : less B' A a with
          | none => rfl
          | some w => rw [less_of e] at m2; cases m2
        · obtain ⟨g1, g2, g3⟩ := st.gh c r h1 h2 h3
          obtain ⟨m1, m2⟩ := ghl c r g1 (fun z => h2 (st.dom r z))
          exact ⟨m1, m2.trans g2, g3⟩
      refine post (less B' A) H' S3 st3 fl v (rvOf_rvr (sv_less kp.ex cells hlf hsv) fun ow => ?_)
      obtain ⟨nt, a, h1, h2⟩ := hown ow
      exact ⟨nt, a, h1, st.dom a h2, S.notOwn h2⟩
end

section
variable {X : Cx} {W : WX} {p pos apos : Pos} {x m : Str} {e o : Expr} {es : List Expr} {As : Rho → Rs (List RV)} {F : Rho → Rs RV} {k : Nat} {f C : Addr} {fd : FuncData} {ps : List Str} {fn : List D → Ret} {dds : List D} {dvs : List V} {ds : List Value}
/-- f(e, ..) of a def that lets nothing out -/
theorem fe_call (Fn : FnOk X.prog X.w X.K X.mg X.base CX0 k f fd ps (spF X.K fn)) (hr : Room k X.A) (hg : Gl X x) (hm : X.mg x = some (.ref f)) (hk : PySem.W.keepIn X.K (.ref f) = true) (hb : Binds X.K fd ps ds) (hd : Vals dvs ds) (hdd : ∀ B, RpL X.K B dds dvs)
    (ha : FA X W (e :: es) As) (hdb : (x == ("__debug__" : Str)) = false := by decide) (he : starEach (e :: es) X.env = (false, eval e X.env) :: starEach es X.env := by rfl) (hpl : (backTo pos (starEach es X.env)).any (·.1) = false := by rfl) :
    FE X W (.Call (.Name x p) (e :: es) [] pos) (eCall fn As dds) := by
  obtain ⟨t, pa, oa⟩ := ha.ex
  refine ⟨_, pe_call Fn hr hg hm hk hb hd pass0 pa hdb he hpl, fun B H σ ρ Q S post => ?_⟩
  exact oa B H σ ρ _ S (post.bind0 fun rs ρ1 B1 H1 S1 st1 f1 post1 vs hvs => call_post S1 st1 f1 hvs hdd post1)
theorem fe_call0 (Fn : FnOk X.prog X.w X.K X.mg X.base CX0 k f fd ps (spF X.K fn)) (hr : Room k X.A) (hg : Gl X x) (hm : X.mg x = some (.ref f)) (hk : PySem.W.keepIn X.K (.ref f) = true) (hb : Binds X.K fd ps ds) (hd : Vals dvs ds) (hdd : ∀ B, RpL X.K B dds dvs)
    (hdb : (x == ("__debug__" : Str)) = false := by decide) : FE X W (.Call (.Name x p) [] [] pos) (eCall fn eNil dds) := by
  refine ⟨_, pe_call0 Fn hr hg hm hk hb hd pass0 hdb, fun B H σ ρ Q S post => ?_⟩
  exact call_post (rs := []) (vs := []) S Step.refl Fills.refl ⟨rfl, List.nodup_nil⟩ hdd post
end
end FP
namespace FP
open PySem L2

/-! ## Built-in functions -/
structure BI (X : Cx) (fv : Value) (f : Rho → List RV → Rs RV) : Prop where
  ex : ∃ r, CallR X fv r ∧ ∀ (W : WX) (Bs Hs B H : Hp) (σ : St) (ρs ρ : Rho) (Q : VK) (rs : List RV) (vs : List V), SR X.K B H σ ρ → Step Bs Hs σ ρs B H σ ρ → Fills ρs ρ → RVs X.K Hs B H σ ρ rs vs →
    Post X.K W Bs Hs σ ρs (fun B' H' ρ' r => ∀ v, RVr X.K Hs B' H' σ ρ' r v → Q v H') (f ρ rs) → r vs H Q
def eB (f : Rho → List RV → Rs RV) (as : Rho → Rs (List RV)) : Rho → Rs RV := fun ρ => (as ρ).bind fun rs ρ1 => f ρ1 rs
def bFlat (f : List D → Option D) : Rho → List RV → Rs RV := fun ρ rs => match f (rs.map (view ρ)) with
  | some d => .ok (.d d) ρ
  | none => .err
section
variable {K : PySem.W.Frag} {B H H0 : Hp} {σ : St} {ρ : Rho}
theorem rvl_views (S : SR K B H σ ρ) : ∀ {rs : List RV} {vs : List V}, RVl K H0 B H σ ρ rs vs → RpL K H (rs.map (view ρ)) vs
  | [], _, h => h
  | r :: rs, _, ⟨v, ws, h1, h2, h3⟩ => by subst h1; exact RpL.cons (h2.view S) (rvl_views S h3)
end
section
variable {X : Cx} {W : WX} {p pos p2 : Pos} {x : Str} {id T : String} {e a b c : Expr} {es : List Expr} {As : Rho → Rs (List RV)} {A F Bf : Rho → Rs RV} {f : Rho → List RV → Rs RV}
theorem fe_callB (h : BI X (.builtin id) f) (hg : Gl X x) (hm : X.mg x = none) (hv : bootBuiltins x = some (.builtin id)) (ha : FA X W (e :: es) As) (hn : x ≠ "__name__" := by decide) (hdb : (x == ("__debug__" : Str)) = false := by decide)
    (he : starEach (e :: es) X.env = (false, eval e X.env) :: starEach es X.env := by rfl) (hpl : (backTo pos (starEach es X.env)).any (·.1) = false := by rfl) : FE X W (.Call (.Name x p) (e :: es) [] pos) (eB f As) := by
  obtain ⟨r, hr, k⟩ := h.ex
  obtain ⟨t, pa, oa⟩ := ha.ex
  refine ⟨_, pe_callB hr hg hm hv pa hn hdb he hpl, fun B H σ ρ Q S post => ?_⟩
  exact oa B H σ ρ _ S (post.bind0 fun rs ρ1 B1 H1 S1 st1 f1 post1 vs hvs => k W B H B1 H1 σ ρ ρ1 Q rs vs S1 st1 f1 hvs post1)
theorem fe_callT (h : BI X (.type T) f) (hg : Gl X x) (hm : X.mg x = none) (hv : bootBuiltins x = some (.type T)) (ha : FA X W (e :: es) As) (hn : x ≠ "__name__" := by decide) (hdb : (x == ("__debug__" : Str)) = false := by decide)
    (he : starEach (e :: es) X.env = (false, eval e X.env) :: starEach es X.env := by rfl) (hpl : (backTo pos (starEach es X.env)).any (·.1) = false := by rfl) : FE X W (.Call (.Name x p) (e :: es) [] pos) (eB f As) := by
  obtain ⟨r, hr, k⟩ := h.ex
  obtain ⟨t, pa, oa⟩ := ha.ex
  refine ⟨_, pe_callTy hr hg hm hv pa hn hdb he hpl, fun B H σ ρ Q S post => ?_⟩
  exact oa B H σ ρ _ S (post.bind0 fun rs ρ1 B1 H1 S1 st1 f1 post1 vs hvs => k W B H B1 H1 σ ρ ρ1 Q rs vs S1 st1 f1 hvs post1)
theorem fe_callM (h : BI X (.builtin id) f) (hg : Gl X x) (hm : X.mg x = some (.builtin id)) (ha : FA X W (e :: es) As) (hdb : (x == ("__debug__" : Str)) = false := by decide)
    (he : starEach (e :: es) X.env = (false, eval e X.env) :: starEach es X.env := by rfl) (hpl : (backTo pos (starEach es X.env)).any (·.1) = false := by rfl) : FE X W (.Call (.Name x p) (e :: es) [] pos) (eB f As) := by
  obtain ⟨r, hr, k⟩ := h.ex
  obtain ⟨t, pa, oa⟩ := ha.ex
  refine ⟨_, pe_callBfun hr hg hm pa hdb he hpl, fun B H σ ρ Q S post => ?_⟩
  exact oa B H σ ρ _ S (post.bind0 fun rs ρ1 B1 H1 S1 st1 f1 post1 vs hvs => k W B H B1 H1 σ ρ ρ1 Q rs vs S1 st1 f1 hvs post1)
theorem bi_flat {fv : Value} {r : List V → Hp → VK → Prop} {g : List D → Option D} (hr : CallR X fv r) (h : ∀ H vs ds d (Q : VK), RpL X.K H ds vs → g ds = some d → (∀ w, (∀ B, Rp X.K B d w) → Q w H) → r vs H Q) : BI X fv (bFlat g) := by
  refine ⟨r, hr, fun W Bs Hs B H σ ρs ρ Q rs vs S st fl hvs post => ?_⟩
  unfold bFlat at post
  cases e : g (rs.map (view ρ)) with
  | none => rw [e] at post; exact post.elim
  | some d =>
    rw [e] at post
    exact h H vs _ d Q (rvl_views S hvs.1) e fun w hw => post B H S st fl w (hw _)
/-! ### ints -/
def fAbs : List D → Option D
  | [.int i] => some (.int (if i < 0 then -i else i))
  | _ => none
theorem b_abs : BI X (.builtin "abs") (bFlat fAbs) := bi_flat call_abs fun H vs ds d Q r e k => by
  unfold fAbs at e
  split at e
  · cases e
    obtain ⟨v, _, rfl, h, rfl⟩ := r
    cases rp_int h
    exact ⟨_, rfl, k _ fun _ => rfl⟩
  · cases e
def fMax2 : List D → Option D
  | [.int i, .int j] => some (.int (if j > i then j else i))
  | _ => none
def fMin2 : List D → Option D
  | [.int i, .int j] => some (.int (if j < i then j else i))
  | _ => none
theorem b_max2 (hc : X.calm = true) : BI X (.builtin "max") (bFlat fMax2) := bi_flat (call_max2 hc) fun H vs ds d Q r e k => by
  unfold fMax2 at e
  split at e
  · cases e
    obtain ⟨v, _, rfl, h, w, _, rfl, h', rfl⟩ := r
    cases rp_int h; cases rp_int h'
    exact ⟨_, _, rfl, k _ fun _ => rfl⟩
  · cases e
theorem b_min2 (hc : X.calm = true) : BI X (.builtin "min") (bFlat fMin2) := bi_flat (call_min2 hc) fun H vs ds d Q r e k => by
  unfold fMin2 at e
  split at e
  · cases e
    obtain ⟨v, _, rfl, h, w, _, rfl, h', rfl⟩ := r
    cases rp_int h; cases rp_int h'
    exact ⟨_, _, rfl, k _ fun _ => rfl⟩
  · cases e
def fGcd : List D → Option D
  | [.int i, .int j] => some (.int ((Nat.gcd i.natAbs j.natAbs : Nat) : Int))
  | _ => none
theorem b_gcd : BI X (.builtin "math.gcd") (bFlat fGcd) := bi_flat cr_gcd fun H vs ds d Q r e k => by
  unfold fGcd at e
  split at e
  · cases e
    obtain ⟨v, _, rfl, h, w, _, rfl, h', rfl⟩ := r
    cases rp_int h; cases rp_int h'
    exact ⟨_, _, rfl, k _ fun _ => rfl⟩
  · cases e
def fInt : List D → Option D
  | [.int i] => some (.int i)
  | [.bl k] => some (.int (if k then 1 else 0))
  | [.str s] => if s.length ≤ 640 then (PySem.intText? s).map .int else none
  | _ => none
theorem b_int : BI X (.type "int") (bFlat fInt) := bi_flat (call_int1.or call_int_str) fun H vs ds d Q r e k => by
  unfold fInt at e
  split at e
  · cases e
    obtain ⟨v, _, rfl, h, rfl⟩ := r
    cases rp_int h
    exact .inl (.inl ⟨_, rfl, k _ fun _ => rfl⟩)
  · cases e
    obtain ⟨v, _, rfl, h, rfl⟩ := r
    cases rp_bl h
    exact .inl (.inr ⟨_, rfl, k _ fun _ => rfl⟩)
  · split at e
    · rename_i hl
      obtain ⟨n, hn, rfl⟩ := Option.map_eq_some_iff.mp e
      obtain ⟨v, _, rfl, h, rfl⟩ := r
      cases rp_str h
      exact .inr ⟨_, n, rfl, hn, hl, k _ fun _ => rfl⟩
    · cases e
  · cases e
def fStr : List D → Option D
  | [.int i] => if i.natAbs < BIG then some (.str (toString i)) else none
  | _ => none
theorem log2_big {n : Nat} (h : n < BIG) : n.log2 < 1920 := by
  by_cases h0 : n = 0
  · subst h0; decide
  · exact Nat.lt_trans ((Nat.log2_lt h0).mpr h) (by decide)
theorem b_str : BI X (.type "str") (bFlat fStr) := bi_flat call_str_int fun H vs ds d Q r e k => by
  unfold fStr at e
  split at e
  · split at e
    · rename_i hl
      cases e
      obtain ⟨v, _, rfl, h, rfl⟩ := r
      cases rp_int h
      exact ⟨_, rfl, log2_big hl, k _ fun _ => rfl⟩
    · cases e
  · cases e
/-! ### of a sequence -/
def D.len : D → Option Nat
  | .str s => if s.length ≤ 100000 then some s.length else none
  | .lst xs => some xs.length
  | .frz xs => some xs.length
  | .tup xs => some xs.length
  | _ => none
def fLen : List D → Option D
  | [d] => d.len.map fun n => .int (n : Nat)
  | _ => none
theorem b_len : BI X (.builtin "len") (bFlat fLen) := bi_flat call_len fun H vs ds d Q r e k => by
  unfold fLen at e
  split at e
  · rename_i d0
    obtain ⟨n, hn, rfl⟩ := Option.map_eq_some_iff.mp e
    obtain ⟨v, _, rfl, h, rfl⟩ := r
    refine ⟨v, n, rfl, ?_, k _ fun _ => rfl⟩
    unfold D.len at hn
    split at hn
    · split at hn
      · rename_i hl
        cases hn
        cases rp_str h
        exact ⟨line_le hl, rfl⟩
      · cases hn
    · cases hn
      obtain ⟨a, vs, rfl, h2, h3⟩ := h
      exact .inl ⟨vs, SqL.of h2, h3.length.symm⟩
    · cases hn
      obtain ⟨a, vs, rfl, h2, h3⟩ := h
      exact .inl ⟨vs, h2, h3.length.symm⟩
    · cases hn
      obtain ⟨a, vs, rfl, h2, h3⟩ := h
      exact .inr ⟨vs, h2, h3.length.symm⟩
    · cases hn
  · cases e
def intsD : List D → Option (List Int)
  | [] => some []
  | .int i :: ds => (intsD ds).map (i :: ·)
  | _ => none
theorem intsD_rp {K : PySem.W.Frag} {B : Hp} : ∀ {ds : List D} {vs : List V} {ns : List Int}, intsD ds = some ns → RpL K B ds vs → vs = ns.map V.int
  | [], _, _, e, h => by cases e; exact h
  | d :: ds, _, ns, e, ⟨v, r, h1, h2, h3⟩ => by
    subst h1
    cases d with
    | int i =>
      obtain ⟨ms, e1, rfl⟩ := Option.map_eq_some_iff.mp (show (intsD ds).map (i :: ·) = some ns from e)
      rw [rp_int h2, intsD_rp e1 h3]; rfl
    | _ => cases e
def blsD : List D → Option (List Bool)
  | [] => some []
  | .bl i :: ds => (blsD ds).map (i :: ·)
  | _ => none
theorem blsD_rp {K : PySem.W.Frag} {B : Hp} : ∀ {ds : List D} {vs : List V} {ns : List Bool}, blsD ds = some ns → RpL K B ds vs → vs = ns.map V.bl
  | [], _, _, e, h => by cases e; exact h
  | d :: ds, _, ns, e, ⟨v, r, h1, h2, h3⟩ => by
    subst h1
    cases d with
    | bl i =>
      obtain ⟨ms, e1, rfl⟩ := Option.map_eq_some_iff.mp (show (blsD ds).map (i :: ·) = some ns from e)
      rw [rp_bl h2, blsD_rp e1 h3]; rfl
    | _ => cases e
def D.litems : D → Option (List D)
  | .lst xs => some xs
  | .frz xs => some xs
  | _ => none
theorem litems_rp {K : PySem.W.Frag} {H : Hp} : ∀ {d : D} {v : V} {ds : List D}, d.litems = some ds → Rp K H d v → ∃ a vs, v = .ref a ∧ SqL K H a vs ∧ RpL K H ds vs
  | .lst _, _, _, e, ⟨a, vs, h1, h2, h3⟩ => by cases e; exact ⟨a, vs, h1, SqL.of h2, h3⟩
  | .frz _, _, _, e, ⟨a, vs, h1, h2, h3⟩ => by cases e; exact ⟨a, vs, h1, h2, h3⟩
  | .tup _, _, _, e, _ => by cases e
  | .non, _, _, e, _ => by cases e
  | .bl _, _, _, e, _ => by cases e
  | .int _, _, _, e, _ => by cases e
  | .str _, _, _, e, _ => by cases e
  | .ins _ _, _, _, e, _ => by cases e
  | .dct _, _, _, e, _ => by cases e
  | .exn _ _ _ _, _, _, e, _ => by cases e
/-- a list or tuple of ints -/
theorem seqi_rp {K : PySem.W.Frag} {H : Hp} : ∀ {d : D} {v : V} {ds : List D}, d.items = some ds → Rp K H d v → ∃ a vs, v = .ref a ∧ (SqL K H a vs ∨ SqT K H a vs) ∧ RpL K H ds vs
  | .lst _, _, _, e, ⟨a, vs, h1, h2, h3⟩ => by cases e; exact ⟨a, vs, h1, .inl (SqL.of h2), h3⟩
  | .frz _, _, _, e, ⟨a, vs, h1, h2, h3⟩ => by cases e; exact ⟨a, vs, h1, .inl h2, h3⟩
  | .tup _, _, _, e, ⟨a, vs, h1, h2, h3⟩ => by cases e; exact ⟨a, vs, h1, .inr h2, h3⟩
  | .non, _, _, e, _ => by cases e
  | .bl _, _, _, e, _ => by cases e
  | .int _, _, _, e, _ => by cases e
  | .str _, _, _, e, _ => by cases e
  | .ins _ _, _, _, e, _ => by cases e
  | .dct _, _, _, e, _ => by cases e
  | .exn _ _ _ _, _, _, e, _ => by cases e
def fLi (g : List Int → Option D) : List D → Option D
  | [d] => (d.items.bind intsD).bind g
  | _ => none
theorem fLi_rp {g : List Int → Option D} {ds : List D} {d : D} {K : PySem.W.Frag} {H : Hp} {vs : List V} (e : fLi g ds = some d) (r : RpL K H ds vs) : ∃ a ns, vs = [V.ref a] ∧ (SqL K H a (ns.map V.int) ∨ SqT K H a (ns.map V.int)) ∧ g ns = some d := by
  unfold fLi at e
  split at e
  · rename_i d0
    obtain ⟨ns, h1, h2⟩ := Option.bind_eq_some_iff.mp e
    obtain ⟨xs, h3, h4⟩ := Option.bind_eq_some_iff.mp h1
    obtain ⟨v, _, rfl, h, rfl⟩ := r
    obtain ⟨a, vs, rfl, h5, h6⟩ := seqi_rp h3 h
    rw [intsD_rp h4 h6] at h5
    exact ⟨a, ns, rfl, h5, h2⟩
  · cases e
/-! sum, min, max of a tuple -/
section
open PySem PyProof.Rows
variable {prog : Program} {w : World} {A : Around} {E : Value → Shared → Prop} {s : Shared} {l : Addr}
theorem iter_intTup {xs : Array (Int × Tok)} {Q : Value → Shared → Prop} (hl : s.heap.IsTuple l (intItems xs))
    (h : ∀ s₂ : Shared, s₂ = { s with heap := s.heap.push { cls := .type "tuple_iterator", data := .fields #[.ref l, .int 0 0] } } →
      (s₂.heap.IsTupleIter s.heap.objs.size l 0 ∧ s₂.heap.IsTuple l (intItems xs)) → (∀ b ∈ [s.heap.objs.size, l], b < s₂.heap.objs.size) → l ≠ s.heap.objs.size → Q (.ref s.heap.objs.size) s₂) :
    wpAny (model prog w) A (pyIter (.ref l)) Q E s := by
  have hlt : l < s.heap.objs.size := by obtain ⟨_, e, _⟩ := hl; exact Heap.lt_size e
  refine wpAny_pyIter_tuple hl (h _ rfl ⟨⟨_, Heap.get?_push_size _ rfl, rfl, rfl⟩, hl.push _⟩ (fun b hb => ?_) (Nat.ne_of_lt hlt))
  show b < (s.heap.push _).objs.size
  rw [Heap.size_push]
  rcases List.mem_cons.mp hb with rfl | hb
  · exact Nat.lt_succ_self _
  · rcases List.mem_cons.mp hb with rfl | hb
    · exact Nat.lt_succ_of_lt hlt
    · cases hb
theorem old_keptT {h' : Heap} (hk : ∀ b o, b ∉ [s.heap.objs.size] → (s.heap.push { cls := .type "tuple_iterator", data := .fields #[.ref l, .int 0 0] }).get? b = some o → h'.get? b = some o) :
    ∀ b o, s.heap.get? b = some o → h'.get? b = some o := fun b o e => by
  refine hk b o (fun hm => ?_) (Heap.get?_push_of_some _ e)
  rcases List.mem_cons.mp hm with e1 | hm
  · exact absurd (e1 ▸ Heap.lt_size e) (Nat.lt_irrefl _)
  · cases hm
theorem sum_intTup {xs : Array (Int × Tok)} {Q : Value → Shared → Prop} (hh : A.handled = none) (hl : s.heap.IsTuple l (intItems xs))
    (h : ∀ h' tk t', (∀ b o, s.heap.get? b = some o → h'.get? b = some o) → Q (.int (preSum (numAt xs) xs.size) t') { s with heap := h', toks := tk }) :
    wpAny (model prog w) A (call (.builtin "sum") [.ref l]) Q E s := by
  refine call_sum_walkG (iter_intTup hl fun s₂ e st hfp hlI => ?_)
  subst e
  refine ⟨_, _, _, _, _, _, numAt xs, rfl, Walks.tuple (A := A.in1) hh _ l hlI (intItems xs), st, hfp, (fun _ _ => intItems_at), fun h' tk t' hk => ?_⟩
  have := h h' tk t' (old_keptT hk)
  simpa [intItems] using this
theorem max_intTup {xs : Array (Int × Tok)} {Q : Value → Shared → Prop} (hh : A.handled = none) (hl : s.heap.IsTuple l (intItems xs)) (hne : 0 < xs.size)
    (h : ∀ v h' tk, (intItems xs)[argBest (fun i j => decide (numAt xs i > numAt xs j)) (xs.size - 1)]? = some v → (∀ b o, s.heap.get? b = some o → h'.get? b = some o) → Q v { s with heap := h', toks := tk }) :
    wpAny (model prog w) A (call (.builtin "max") [.ref l]) Q E s := by
  refine call_max_walk (iter_intTup hl fun s₂ e st hfp hlI => ?_)
  subst e
  refine ⟨_, _, _, _, _, _, _, rfl, Walks.tuple (A := A.in1) hh _ l hlI (intItems xs), st, hfp, by simpa [intItems] using hne, CmpOf.ints_gt (numAt xs) (fun _ _ => intItems_at), fun v h' tk hP hk => ?_⟩
  exact h v h' tk (by simpa [intItems] using hP) (old_keptT hk)
theorem min_intTup {xs : Array (Int × Tok)} {Q : Value → Shared → Prop} (hh : A.handled = none) (hl : s.heap.IsTuple l (intItems xs)) (hne : 0 < xs.size)
    (h : ∀ v h' tk, (intItems xs)[argBest (fun i j => decide (numAt xs i < numAt xs j)) (xs.size - 1)]? = some v → (∀ b o, s.heap.get? b = some o → h'.get? b = some o) → Q v { s with heap := h', toks := tk }) :
    wpAny (model prog w) A (call (.builtin "min") [.ref l]) Q E s := by
  refine call_min_walk (iter_intTup hl fun s₂ e st hfp hlI => ?_)
  subst e
  refine ⟨_, _, _, _, _, _, _, rfl, Walks.tuple (A := A.in1) hh _ l hlI (intItems xs), st, hfp, by simpa [intItems] using hne, CmpOf.ints_lt (numAt xs) (fun _ _ => intItems_at), fun v h' tk hP hk => ?_⟩
  exact h v h' tk (by simpa [intItems] using hP) (old_keptT hk)
variable {its : List Value} {ns : List Int} {Q : Value → Shared → Prop}
theorem sum_rawT (hh : A.handled = none) (hl : s.heap.IsTuple l its.toArray) (hi : IntsAre its ns)
    (h : ∀ h' tk t', (∀ b o, s.heap.get? b = some o → h'.get? b = some o) → Q (.int ns.sum t') { s with heap := h', toks := tk }) : wpAny (model prog w) A (call (.builtin "sum") [.ref l]) Q E s := by
  obtain ⟨xs, e⟩ := hi.allInts.items
  have hn : numsOf (intItems xs).toList = ns := by rw [← e]; exact hi.numsOf
  rw [nums_intItems] at hn
  rw [e] at hl
  refine sum_intTup hh hl fun h' tk t' hk => ?_
  have := h h' tk t' hk
  rw [preSum_eq, List.take_of_length_le (by simp), hn]; exact this
theorem max_rawT (hh : A.handled = none) (hl : s.heap.IsTuple l its.toArray) (hi : IntsAre its ns) (hne : 0 < ns.length)
    (h : ∀ h' tk M t', (∀ b o, s.heap.get? b = some o → h'.get? b = some o) → M ∈ ns → (∀ a, a ∈ ns → a ≤ M) → Q (.int M t') { s with heap := h', toks := tk }) : wpAny (model prog w) A (call (.builtin "max") [.ref l]) Q E s := by
  obtain ⟨xs, e⟩ := hi.allInts.items
  have hn : numsOf (intItems xs).toList = ns := by rw [← e]; exact hi.numsOf
  rw [nums_intItems] at hn
  rw [e] at hl
  subst hn
  have hsz : 0 < xs.size := by simpa using hne
  refine max_intTup hh hl hsz fun v h' tk hv hk => ?_
  obtain ⟨t, rfl⟩ := intItems_at hv
  obtain ⟨h1, h2⟩ := argBest_gt (numAt xs) (xs.size - 1)
  refine h _ _ _ t hk ?_ fun a ha => ?_
  · rw [numAt_eq]; exact getD_mem (by rw [List.length_map, Array.length_toList]; omega)
  · obtain ⟨j, hj, rfl⟩ := mem_getD ha
    rw [List.length_map, Array.length_toList] at hj
    rw [← numAt_eq]; exact h2 j (by omega)
theorem min_rawT (hh : A.handled = none) (hl : s.heap.IsTuple l its.toArray) (hi : IntsAre its ns) (hne : 0 < ns.length)
    (h : ∀ h' tk M t', (∀ b o, s.heap.get? b = some o → h'.get? b = some o) → M ∈ ns → (∀ a, a ∈ ns → M ≤ a) → Q (.int M t') { s with heap := h', toks := tk }) : wpAny (model prog w) A (call (.builtin "min") [.ref l]) Q E s := by
  obtain ⟨xs, e⟩ := hi.allInts.items
  have hn : numsOf (intItems xs).toList = ns := by rw [← e]; exact hi.numsOf
  rw [nums_intItems] at hn
  rw [e] at hl
  subst hn
  have hsz : 0 < xs.size := by simpa using hne
  refine min_intTup hh hl hsz fun v h' tk hv hk => ?_
  obtain ⟨t, rfl⟩ := intItems_at hv
  obtain ⟨h1, h2⟩ := argBest_lt (numAt xs) (xs.size - 1)
  refine h _ _ _ t hk ?_ fun a ha => ?_
  · rw [numAt_eq]; exact getD_mem (by rw [List.length_map, Array.length_toList]; omega)
  · obtain ⟨j, hj, rfl⟩ := mem_getD ha
    rw [List.length_map, Array.length_toList] at hj
    rw [← numAt_eq]; exact h2 j (by omega)
end
theorem cr_sumT (hc : X.calm = true) : CallR X (.builtin "sum") (fun vs H Q => ∃ (a : Addr) (ns : List Int), vs = [V.ref a] ∧ SqT X.K H a (ns.map V.int) ∧ Q (.int ns.sum) H) := by
  intro pins s σ H vs us Q I r h
  obtain ⟨a, ns, rfl, hs, q⟩ := h
  obtain ⟨its, rv, hl, _⟩ := I.tuple hs
  rw [Vals.ref1 r]
  exact sum_rawT (I.ok.hd hc) hl rv.ints fun h' tk t' hk => ⟨.int _, H, I.kept hk, ⟨_, rfl⟩, q⟩
theorem cr_maxT (hc : X.calm = true) : CallR X (.builtin "max") (fun vs H Q => ∃ (a : Addr) (ns : List Int), vs = [V.ref a] ∧ SqT X.K H a (ns.map V.int) ∧ 0 < ns.length ∧ ∀ m, m ∈ ns → (∀ y, y ∈ ns → y ≤ m) → Q (.int m) H) := by
  intro pins s σ H vs us Q I r h
  obtain ⟨a, ns, rfl, hs, hne, q⟩ := h
  obtain ⟨its, rv, hl, _⟩ := I.tuple hs
  rw [Vals.ref1 r]
  exact max_rawT (I.ok.hd hc) hl rv.ints hne fun h' tk m t' hk h1 h2 => ⟨.int _, H, I.kept hk, ⟨_, rfl⟩, q m h1 h2⟩
theorem cr_minT (hc : X.calm = true) : CallR X (.builtin "min") (fun vs H Q => ∃ (a : Addr) (ns : List Int), vs = [V.ref a] ∧ SqT X.K H a (ns.map V.int) ∧ 0 < ns.length ∧ ∀ m, m ∈ ns → (∀ y, y ∈ ns → m ≤ y) → Q (.int m) H) := by
  intro pins s σ H vs us Q I r h
  obtain ⟨a, ns, rfl, hs, hne, q⟩ := h
  obtain ⟨its, rv, hl, _⟩ := I.tuple hs
  rw [Vals.ref1 r]
  exact min_rawT (I.ok.hd hc) hl rv.ints hne fun h' tk m t' hk h1 h2 => ⟨.int _, H, I.kept hk, ⟨_, rfl⟩, q m h1 h2⟩
def fSum : List D → Option D := fLi fun ns => some (.int ns.sum)
theorem b_sum (hc : X.calm = true) : BI X (.builtin "sum") (bFlat fSum) := bi_flat ((cr_sum hc).or (cr_sumT hc)) fun H vs ds d Q r e k => by
  obtain ⟨a, ns, rfl, h1, h2⟩ := fLi_rp e r
  cases h2
  rcases h1 with h1 | h1
  · exact .inl ⟨a, ns, rfl, h1, k _ fun _ => rfl⟩
  · exact .inr ⟨a, ns, rfl, h1, k _ fun _ => rfl⟩
def maxI : List Int → Int
  | [] => 0
  | n :: ns => ns.foldl max n
def minI : List Int → Int
  | [] => 0
  | n :: ns => ns.foldl min n
theorem foldl_max : ∀ (ns : List Int) (n : Int), (ns.foldl max n = n ∨ ns.foldl max n ∈ ns) ∧ n ≤ ns.foldl max n ∧ ∀ y ∈ ns, y ≤ ns.foldl max n
  | [], n => ⟨.inl rfl, Int.le_refl _, by simp⟩
  | m :: ns, n => by
    obtain ⟨h1, h2, h3⟩ := foldl_max ns (max n m)
    rw [List.foldl_cons]
    refine ⟨?_, by omega, fun y hy => ?_⟩
    · rcases h1 with h1 | h1
      · rw [h1]
        by_cases hnm : n ≤ m
        · right; rw [show max n m = m by omega]; simp
        · left; omega
      · right; exact List.mem_cons_of_mem _ h1
    · rcases List.mem_cons.mp hy with rfl | hy
      · omega
      · exact h3 y hy
theorem foldl_min : ∀ (ns : List Int) (n : Int), (ns.foldl min n = n ∨ ns.foldl min n ∈ ns) ∧ ns.foldl min n ≤ n ∧ ∀ y ∈ ns, ns.foldl min n ≤ y
  | [], n => ⟨.inl rfl, Int.le_refl _, by simp⟩
  | m :: ns, n => by
    obtain ⟨h1, h2, h3⟩ := foldl_min ns (min n m)
    rw [List.foldl_cons]
    refine ⟨?_, by omega, fun y hy => ?_⟩
    · rcases h1 with h1 | h1
      · rw [h1]
        by_cases hnm : m ≤ n
        · right; rw [show min n m = m by omega]; simp
        · left; omega
      · right; exact List.mem_cons_of_mem _ h1
    · rcases List.mem_cons.mp hy with rfl | hy
      · omega
      · exact h3 y hy
theorem maxI_mem {ns : List Int} (h : 0 < ns.length) : maxI ns ∈ ns := by
  cases ns with
  | nil => simp at h
  | cons n ns =>
    rcases (foldl_max ns n).1 with h | h
    · simp only [maxI, h]; simp
    · exact List.mem_cons_of_mem _ h
theorem maxI_ge {ns : List Int} {y : Int} (h : y ∈ ns) : y ≤ maxI ns := by
  cases ns with
  | nil => simp at h
  | cons n ns =>
    rcases List.mem_cons.mp h with rfl | h
    · exact (foldl_max ns _).2.1
    · exact (foldl_max ns n).2.2 y h
theorem minI_mem {ns : List Int} (h : 0 < ns.length) : minI ns ∈ ns := by
  cases ns with
  | nil => simp at h
  | cons n ns =>
    rcases (foldl_min ns n).1 with h | h
    · simp only [minI, h]; simp
    · exact List.mem_cons_of_mem _ h
theorem minI_le {ns : List Int} {y : Int} (h : y ∈ ns) : minI ns ≤ y := by
  cases ns with
  | nil => simp at h
  | cons n ns =>
    rcases List.mem_cons.mp h with rfl | h
    · exact (foldl_min ns _).2.1
    · exact (foldl_min ns n).2.2 y h
def fMax : List D → Option D := fLi fun ns => if 0 < ns.length then some (.int (maxI ns)) else none
def fMin : List D → Option D := fLi fun ns => if 0 < ns.length then some (.int (minI ns)) else none
theorem b_max (hc : X.calm = true) : BI X (.builtin "max") (bFlat fMax) := bi_flat ((cr_max hc).or (cr_maxT hc)) fun H vs ds d Q r e k => by
  obtain ⟨a, ns, rfl, h1, h2⟩ := fLi_rp e r
  split at h2
  · rename_i hl
    cases h2
    rcases h1 with h1 | h1
    · refine .inl ⟨a, ns, rfl, h1, hl, fun m hm hy => ?_⟩
      rw [show m = maxI ns from Int.le_antisymm (maxI_ge hm) (hy _ (maxI_mem hl))]
      exact k _ fun _ => rfl
    · refine .inr ⟨a, ns, rfl, h1, hl, fun m hm hy => ?_⟩
      rw [show m = maxI ns from Int.le_antisymm (maxI_ge hm) (hy _ (maxI_mem hl))]
      exact k _ fun _ => rfl
  · cases h2
theorem b_min (hc : X.calm = true) : BI X (.builtin "min") (bFlat fMin) := bi_flat ((cr_min hc).or (cr_minT hc)) fun H vs ds d Q r e k => by
  obtain ⟨a, ns, rfl, h1, h2⟩ := fLi_rp e r
  split at h2
  · rename_i hl
    cases h2
    rcases h1 with h1 | h1
    · refine .inl ⟨a, ns, rfl, h1, hl, fun m hm hy => ?_⟩
      rw [show m = minI ns from Int.le_antisymm (hy _ (minI_mem hl)) (minI_le hm)]
      exact k _ fun _ => rfl
    · refine .inr ⟨a, ns, rfl, h1, hl, fun m hm hy => ?_⟩
      rw [show m = minI ns from Int.le_antisymm (hy _ (minI_mem hl)) (minI_le hm)]
      exact k _ fun _ => rfl
  · cases h2
def fBl (g : List Bool → Bool) : List D → Option D
  | [d] => (d.litems.bind blsD).map fun bs => .bl (g bs)
  | _ => none
theorem fBl_rp {g : List Bool → Bool} {ds : List D} {d : D} {K : PySem.W.Frag} {H : Hp} {vs : List V} (e : fBl g ds = some d) (r : RpL K H ds vs) : ∃ a ns, vs = [V.ref a] ∧ SqL K H a (ns.map V.bl) ∧ d = .bl (g ns) := by
  unfold fBl at e
  split at e
  · rename_i d0
    obtain ⟨ns, h1, rfl⟩ := Option.map_eq_some_iff.mp e
    obtain ⟨xs, h3, h4⟩ := Option.bind_eq_some_iff.mp h1
    obtain ⟨v, _, rfl, h, rfl⟩ := r
    obtain ⟨a, vs, rfl, h5, h6⟩ := litems_rp h3 h
    rw [blsD_rp h4 h6] at h5
    exact ⟨a, ns, rfl, h5, rfl⟩
  · cases e
def fAll : List D → Option D := fBl fun bs => bs.all _root_.id
def fAny : List D → Option D := fBl fun bs => bs.any _root_.id
theorem b_all (hc : X.calm = true) : BI X (.builtin "all") (bFlat fAll) := bi_flat (cr_all hc) fun H vs ds d Q r e k => by
  obtain ⟨a, ns, rfl, h1, rfl⟩ := fBl_rp e r
  exact ⟨a, ns, rfl, h1, k _ fun _ => rfl⟩
theorem b_any (hc : X.calm = true) : BI X (.builtin "any") (bFlat fAny) := bi_flat (cr_any hc) fun H vs ds d Q r e k => by
  obtain ⟨a, ns, rfl, h1, rfl⟩ := fBl_rp e r
  exact ⟨a, ns, rfl, h1, k _ fun _ => rfl⟩
/-! ### list(..), tuple(..) -/
def bList : Rho → List RV → Rs RV := fun ρ rs => match rs with
  | [r] => match (view ρ r).items with
    | some xs => .ok (.own (.l xs)) ρ
    | none => .err
  | _ => .err
theorem b_list : BI X (.type "list") bList := by
  refine ⟨_, call_list_of, fun W Bs Hs B H σ ρs ρ Q rs vs S st fl hvs post => ?_⟩
  unfold bList at post
  split at post
  · rename_i r
    split at post
    · rename_i xs e
      obtain ⟨v, _, rfl, hv, rfl⟩ := hvs.1
      obtain ⟨a, vs, rfl, h1, h2⟩ := hv.seq S e
      refine ⟨a, vs, rfl, h1, fun l hl => ?_⟩
      exact post B _ (S.new hl) (st.trans (Step.new S hl)) fl _ ⟨rfl, ⟨l, vs, rfl, S.notNew hl, upd_same, h2⟩, rfl, l, rfl, st.dom l hl, S.notOwn hl⟩
    · exact post.elim
  · exact post.elim
def bTuple : Rho → List RV → Rs RV := fun ρ rs => match rs with
  | [r] => match view ρ r with
    | .tup xs => .ok (.d (.tup xs)) (frz r ρ)
    | .lst xs => .ok (.d (.tup xs)) ρ
    | .frz xs => .ok (.d (.tup xs)) ρ
    | _ => .err
  | _ => .err
theorem b_tuple : BI X (.type "tuple") bTuple := by
  refine ⟨_, call_tuple_of, fun W Bs Hs B H σ ρs ρ Q rs vs S st fl hvs post => ?_⟩
  unfold bTuple at post
  split at post
  · rename_i r
    obtain ⟨v, _, rfl, hv, rfl⟩ := hvs.1
    split at post
    · rename_i xs e
      obtain ⟨B2, x2, S2, st2, rp, _⟩ := take1 S st hv
      rw [e] at rp
      have rp' := rp
      obtain ⟨a, vs, rfl, h1, h2⟩ := rp
      exact ⟨a, vs, rfl, .inr ⟨S2.ex.st h1, post B2 H S2 st2 (fl.trans frz_fills) _ rp'⟩⟩
    · rename_i xs e
      obtain ⟨a, vs, rfl, h1, h2⟩ := hv.items S e
      refine ⟨a, vs, rfl, .inl ⟨SqL.of h1, fun l hl => ?_⟩⟩
      exact post _ _ (S.newB hl) (st.trans (Step.newB S hl)) fl _ ⟨l, vs, rfl, SqT.of upd_same, RpL.up (Ex.new (S.notNew hl)) h2⟩
    · rename_i xs e
      obtain ⟨a, vs, rfl, h1, h2⟩ := hv.fitems S e
      refine ⟨a, vs, rfl, .inl ⟨h1, fun l hl => ?_⟩⟩
      exact post _ _ (S.newB hl) (st.trans (Step.newB S hl)) fl _ ⟨l, vs, rfl, SqT.of upd_same, RpL.up (Ex.new (S.notNew hl)) h2⟩
    · exact post.elim
  · exact post.elim
/-! ### isinstance of a built-in type -/
def D.tyN : D → Option String
  | .non => some "NoneType"
  | .bl _ => some "bool"
  | .int _ => some "int"
  | .str _ => some "str"
  | .tup _ => some "tuple"
  | .lst _ => some "list"
  | .frz _ => some "list"
  | .dct _ => some "dict"
  | .ins _ _ => none
  | .exn _ _ _ _ => none
def isTy (a b : String) : Bool := a == b || (a == "bool" && b == "int") || b == "object"
def eIsi (T : String) (f : Rho → Rs RV) : Rho → Rs RV := fun ρ => (f ρ).bind fun r ρ1 => match (view ρ1 r).tyN with
  | some t => .ok (.d (.bl (isTy t T))) ρ1
  | none => .err
def isiOk (T : String) : Bool := ["NoneType", "bool", "int", "str", "tuple", "list", "dict"].all fun a => kitB a T == some (isTy a T)
theorem tyX_of {K : PySem.W.Frag} {H : Hp} : ∀ {d : D} {v : V} {t : String}, d.tyN = some t → Rp K H d v → TyX K H v (.type t)
  | .non, _, _, e, h => by cases e; cases rp_non h; exact .base .non
  | .bl _, _, _, e, h => by cases e; cases rp_bl h; exact .base (.bl _)
  | .int _, _, _, e, h => by cases e; cases rp_int h; exact .base (.int _)
  | .str _, _, _, e, h => by cases e; cases rp_str h; exact .base (.str _)
  | .tup _, _, _, e, ⟨a, vs, h1, h2, _⟩ => by
    cases e; subst h1
    rcases h2 with (h2 | ⟨o, h2⟩) | ⟨o, its, n, h2, h3, _⟩
    · exact .base (.tup h2)
    · exact .fTuple h2
    · exact .kTuple h2 h3
  | .lst _, _, _, e, ⟨a, vs, h1, h2, _⟩ => by cases e; subst h1; exact .base (.lst h2)
  | .frz _, _, _, e, ⟨a, vs, h1, h2, _⟩ => by
    cases e; subst h1
    rcases h2 with (h2 | ⟨o, h2⟩) | ⟨o, its, n, h2, h3, _⟩
    · exact .base (.lst h2)
    · exact .base (.frz h2)
    · exact .kList h2 h3
  | .dct _, _, _, e, ⟨a, vs, h1, h2, _⟩ => by cases e; subst h1; exact .base (.dK h2)
  | .ins _ _, _, _, e, _ => by cases e
  | .exn _ _ _ _, _, _, e, _ => by cases e
theorem fe_isi (hT : isiOk T = true) (hg : Gl X "isinstance") (hm : X.mg "isinstance" = none) (ha : FE X W a A) (hb : PE X b (tC (.ty T)))
    (hs : starEach [a, b] X.env = (false, eval a X.env) :: starEach [b] X.env := by rfl) (hs2 : starEach [b] X.env = (false, eval b X.env) :: starEach [] X.env := by rfl) (hpl : (backTo pos (starEach [b] X.env)).any (·.1) = false := by rfl) :
    FE X W (.Call (.Name "isinstance" p) [a, b] [] pos) (eIsi T A) := by
  obtain ⟨t, pa, oa⟩ := ha.ex
  refine ⟨_, pe_callB call_isi hg hm (by decide +kernel) (pa_cons pa (pa_cons hb pa_nil hs2) hs) (by decide) (by decide) hs hpl, fun B H σ ρ Q S post => ?_⟩
  refine oa B H σ ρ _ S (post.bind0 fun r ρ1 B1 H1 S1 st1 f1 post1 v hv => ?_)
  split at post1
  · rename_i ty e
    refine ⟨v, .ty T, .type ty, .type T, isTy ty T, rfl, .ty T, tyX_of e (hv.view S1), kit_ty ?_, post1 B1 H1 S1 st1 f1 _ rfl⟩
    have hm : ty ∈ ["NoneType", "bool", "int", "str", "tuple", "list", "dict"] := by
      unfold D.tyN at e
      split at e <;> cases e <;> simp
    have := List.all_eq_true.mp hT ty hm
    exact beq_iff_eq.mp this
  · exact post1.elim
/-! ### slices -/
structure FO (X : Cx) (W : WX) (o : Option Expr) (F : Rho → Rs (Option Int)) : Prop where
  ex : ∃ t, PO X o t ∧ ∀ B H σ ρ Q, SR X.K B H σ ρ → Post X.K W B H σ ρ (fun _ H' _ i => Q i H') (F ρ) → t σ H Q
def oNone : Rho → Rs (Option Int) := fun ρ => .ok none ρ
def oSome (f : Rho → Rs RV) : Rho → Rs (Option Int) := fun ρ => (f ρ).bind fun r ρ1 => match view ρ1 r with
  | .int i => .ok (some i) ρ1
  | _ => .err
theorem fo_none : FO X W none oNone := ⟨_, po_none, fun B H σ ρ Q S post => post B H S Step.refl Fills.refl⟩
theorem fo_some (h : FE X W e F) : FO X W (some e) (oSome F) := by
  obtain ⟨t, pe, o⟩ := h.ex
  refine ⟨_, po_some pe, fun B H σ ρ Q S post => ?_⟩
  refine o B H σ ρ _ S (post.bind0 fun r ρ1 B1 H1 S1 st1 f1 post1 v hv => ?_)
  split at post1
  · rename_i i e1
    have g := hv.view S1
    rw [e1] at g
    exact ⟨i, rp_int g, post1 B1 H1 S1 st1 f1⟩
  · exact post1.elim
def cutD (xs : List D) (lo hi : Option Int) : List D := (xs.drop (HT.sIx xs.length 0 lo)).take (HT.sIx xs.length xs.length hi - HT.sIx xs.length 0 lo)
theorem cutD_rp {K : PySem.W.Frag} {B : Hp} {ds : List D} {vs : List V} {lo hi : Option Int} (h : RpL K B ds vs) : RpL K B (cutD ds lo hi) (cutV vs lo hi) := by
  unfold cutD cutV
  rw [h.length]
  exact (h.drop _).take _
def eSl (f : Rho → Rs RV) (lo hi : Rho → Rs (Option Int)) : Rho → Rs RV := fun ρ => (f ρ).bind fun r ρ1 => (lo ρ1).bind fun l ρ2 => (hi ρ2).bind fun u ρ3 => match view ρ3 r with
  | .str s => if s.length ≤ 100000 then .ok (.d (.str (cutS s l u))) ρ3 else .err
  | .lst xs => .ok (.own (.l (cutD xs l u))) ρ3
  | .frz xs => .ok (.own (.l (cutD xs l u))) ρ3
  | .tup xs => .ok (.d (.tup (cutD xs l u))) (frz r ρ3)
  | _ => .err
theorem fe_slice {lo hi : Option Expr} {L U : Rho → Rs (Option Int)} (h : FE X W e F) (hl : FO X W lo L) (hu : FO X W hi U) : FE X W (.Subscript e (.Slice lo hi none p2) pos) (eSl F L U) := by
  obtain ⟨t, pe, o⟩ := h.ex
  obtain ⟨tl, pl, ol⟩ := hl.ex
  obtain ⟨th, ph, oh⟩ := hu.ex
  refine ⟨_, pe_slice (sl_list.or (sl_tupA.or sl_str)) pe pl ph, fun B H σ ρ Q S post => ?_⟩
  refine o B H σ ρ _ S (post.bind0 fun r ρ1 B1 H1 S1 st1 f1 post1 v hv => ?_)
  refine ol B1 H1 σ ρ1 _ S1 (post1.bind st1 f1 fun l ρ2 B2 H2 S2 st2 f2 post2 => ?_)
  refine oh B2 H2 σ ρ2 _ S2 (post2.bind (st1.trans st2) (f1.trans f2) fun u ρ3 B3 H3 S3 st3 f3 post3 => ?_)
  have hv3 := (hv.later st2 f2).later st3 f3
  have st := (st1.trans st2).trans st3
  have fl := (f1.trans f2).trans f3
  split at post3
  · rename_i s e1
    split at post3
    · rename_i hl
      have g := hv3.view S3
      rw [e1] at g
      exact .inr (.inr ⟨s, rp_str g, line_le hl, post3 _ _ S3 st fl _ rfl⟩)
    · exact post3.elim
  · rename_i xs e1
    obtain ⟨a, vs, rfl, h1, h2⟩ := hv3.items S3 e1
    refine .inl ⟨a, vs, rfl, SqL.of h1, fun q hq => ?_⟩
    exact post3 _ _ (S3.new hq) (st.trans (Step.new S3 hq)) fl _ ⟨rfl, ⟨q, _, rfl, S3.notNew hq, upd_same, cutD_rp h2⟩, rfl, q, rfl, st.dom q hq, S3.notOwn hq⟩
  · rename_i xs e1
    obtain ⟨a, vs, rfl, h1, h2⟩ := hv3.fitems S3 e1
    refine .inl ⟨a, vs, rfl, h1, fun q hq => ?_⟩
    exact post3 _ _ (S3.new hq) (st.trans (Step.new S3 hq)) fl _ ⟨rfl, ⟨q, _, rfl, S3.notNew hq, upd_same, cutD_rp h2⟩, rfl, q, rfl, st.dom q hq, S3.notOwn hq⟩
  · rename_i xs e1
    obtain ⟨B4, x4, S4, st4, rp, _⟩ := take1 S3 st hv3
    rw [e1] at rp
    obtain ⟨a, vs, rfl, h1, h2⟩ := rp
    refine .inr (.inl ⟨a, vs, rfl, S4.ex.st h1, fun hw => ?_, fun hw q hq => ?_⟩)
    · refine post3 B4 H3 S4 st4 (fl.trans frz_fills) _ ⟨a, vs, rfl, h1, ?_⟩
      have e2 : cutD xs l u = xs := by
        unfold cutD
        rw [← h2.length, hw.1, hw.2, List.drop_zero, Nat.sub_zero, List.take_of_length_le (Nat.le_of_eq h2.length.symm)]
      rw [e2]
      exact h2
    · exact post3 _ _ (S4.newB hq) (st4.trans (Step.newB S4 hq)) (fl.trans frz_fills) _ ⟨q, _, rfl, SqT.of upd_same, RpL.up (Ex.new (S4.notNew hq)) (cutD_rp h2)⟩
  · exact post3.elim
end
end FP
namespace FP
open PySem L2
section
variable {X : Cx} {W : WX} {pos : Pos} {a b : Expr} {A Bf : Rho → Rs RV}
/-! ### in place -/
def iAdd : D → D → Option D
  | .int i, .int j => some (.int (i + j))
  | _, _ => none
theorem i2_add : Op2 X (inplaceOp .Add) iAdd := ints_of0 iop_add fun dx dy d e => by
  unfold iAdd at e; split at e <;> cases e
  exact ⟨_, _, rfl, rfl, fun _ => rfl⟩
theorem i2_sub : Op2 X (inplaceOp .Sub) oSub := ints_of0 iop_sub fun dx dy d e => by
  unfold oSub at e; split at e <;> cases e
  exact ⟨_, _, rfl, rfl, fun _ => rfl⟩
def iMul : D → D → Option D
  | .int i, .int j => if j.natAbs < 1000000000000 then some (.int (i * j)) else none
  | _, _ => none
theorem cmul_of {i j : Int} (h : j.natAbs < 1000000000000) : CMul i j := .inr ⟨by omega, by omega⟩
theorem i2_mul : Op2 X (inplaceOp .Mult) iMul := ints_of iop_mul fun dx dy d e => by
  unfold iMul at e; split at e
  · split at e <;> cases e
    rename_i h
    exact ⟨_, _, rfl, rfl, cmul_of h, fun _ => rfl⟩
  · cases e
def iDiv : D → D → Option D
  | .int i, .int j => if 0 < j ∧ j < 1000000000 then some (.int (i / j)) else none
  | _, _ => none
theorem i2_div : Op2 X (inplaceOp .FloorDiv) iDiv := ints_of iop_fdiv fun dx dy d e => by
  unfold iDiv at e; split at e
  · split at e <;> cases e
    rename_i h
    exact ⟨_, _, rfl, rfl, ⟨h.1, by omega⟩, fun _ => rfl⟩
  · cases e
/-! ### a list (or int) times an int -/
def eMul (a b : Rho → Rs RV) : Rho → Rs RV := fun ρ => (a ρ).bind fun x ρ1 => (b ρ1).bind fun y ρ2 => match view ρ2 x, view ρ2 y with
  | .lst xs, .int k => if k ≤ 100000 ∧ xs.length * k.toNat ≤ 100000 ∧ 0 ≤ k then .ok (.own (.l (List.replicate k.toNat xs).flatten)) ρ2 else .err
  | u, v => match oMul u v with
    | some d => .ok (.d d) ρ2
    | none => .err
theorem rep_rp {K : PySem.W.Frag} {B : Hp} {ds : List D} {vs : List V} (h : RpL K B ds vs) : ∀ n : Nat, RpL K B (List.replicate n ds).flatten (List.replicate n vs).flatten
  | 0 => rfl
  | n + 1 => by
    rw [List.replicate_succ, List.replicate_succ, List.flatten_cons, List.flatten_cons]
    exact h.append (rep_rp h n)
theorem fe_mul (ha : FE X W a A) (hb : FE X W b Bf) : FE X W (.BinOp a .Mult b pos) (eMul A Bf) := by
  obtain ⟨ta, tb, pa, pb, k⟩ := two ha hb (g := fun x y ρ2 => match view ρ2 x, view ρ2 y with
  | .lst xs, .int k => if k ≤ 100000 ∧ xs.length * k.toNat ≤ 100000 ∧ 0 ≤ k then .ok (.own (.l (List.replicate k.toNat xs).flatten)) ρ2 else .err
  | u, v => match oMul u v with
    | some d => .ok (.d d) ρ2
    | none => .err)
  refine ⟨_, pe_op (op_mulW.or op_rep) pa pb, fun B H σ ρ Q S post => ?_⟩
  refine k B H σ ρ Q _ S post fun x y ρ2 B2 H2 v w S2 st fl hv hw hne post2 => ?_
  split at post2
  · rename_i xs k e1 e2
    split at post2
    · rename_i hl
      obtain ⟨p, vs, rfl, h1, h2⟩ := hv.items S2 e1
      have g2 := hw.view S2
      rw [e2] at g2
      cases rp_int g2
      refine .inr ⟨p, k, vs, rfl, rfl, h1, by omega, by omega, line_le (by rw [h2.length]; exact hl.2.1), fun r hr => ?_⟩
      exact post2 _ _ (S2.new hr) (st.trans (Step.new S2 hr)) fl _ ⟨rfl, ⟨r, _, rfl, S2.notNew hr, upd_same, rep_rp h2 _⟩, rfl, r, rfl, st.dom r hr, S2.notOwn hr⟩
    · exact post2.elim
  · cases e : oMul (view ρ2 x) (view ρ2 y) with
    | none => rw [e] at post2; exact post2.elim
    | some d =>
      rw [e] at post2
      unfold oMul at e
      split at e
      · rename_i i j e1 e2
        split at e
        · rename_i hl
          cases e
          have g1 := hv.view S2
          have g2 := hw.view S2
          rw [e1] at g1; rw [e2] at g2
          cases rp_int g1; cases rp_int g2
          exact .inl ⟨i, j, rfl, rfl, wide_mul (a := 950) (b := 950) hl.1 hl.2 (by decide) (by decide) (by decide), post2 _ _ S2 st fl _ rfl⟩
        · cases e
      · cases e
/-! ### divmod -/
def bDivmod : Rho → List RV → Rs RV := fun ρ rs => match rs.map (view ρ) with
  | [.int i, .int j] => if 0 < j ∧ j.natAbs < BIG then .ok (.d (.tup [.int (i / j), .int (i % j)])) ρ else .err
  | _ => .err
theorem b_divmod : BI X (.builtin "divmod") bDivmod := by
  refine ⟨_, call_divmodW, fun W Bs Hs B H σ ρs ρ Q rs vs S st fl hvs post => ?_⟩
  have rv := rvl_views S hvs.1
  unfold bDivmod at post
  split at post
  · rename_i i j e
    split at post
    · rename_i hl
      rw [e] at rv
      obtain ⟨v, _, rfl, h, w, _, rfl, h', rfl⟩ := rv
      cases rp_int h; cases rp_int h'
      refine ⟨i, j, rfl, ⟨hl.1, PyProof.noPylong_of_log2 (wide_div (i := i) (b := 950) hl.1 hl.2 (by decide) (by decide)).2⟩, fun p hp => ?_⟩
      exact post _ _ (S.newB hp) (st.trans (Step.newB S hp)) fl _ ⟨p, _, rfl, SqT.of upd_same, .cons rfl (.cons rfl .nil)⟩
    · exact post.elim
  · exact post.elim
/-- the name in a slot, however the frame holds it -/
theorem fe_v (i : Nat) {x : Str} (hN : X.N[i]? = some x := by rfl) (hv : Vis X.env.scope x := by first | exact Or.inl rfl | exact Or.inr (Or.inl rfl) | exact Or.inr (Or.inr rfl)) (hd : (x == ("__debug__" : Str)) = false := by decide)
    (hcd : (x == ("__classdict__" : Str)) = false := by decide) : FE X W (.Name x pos) (eVar i) := fe_var hN hv hd hcd
end
end FP
namespace FP
open PySem L2
section
variable {X : Cx} {x : Str} {T : String} {pos : Pos}
theorem pe_ty (hg : Gl X x) (hm : X.mg x = none) (hv : bootBuiltins x = some (.type T)) (hn : x ≠ "__name__" := by decide) (hd : (x == ("__debug__" : Str)) = false := by decide) : PE X (.Name x pos) (tC (.ty T)) :=
  pe_bltn hg hm hv (by rfl) hn hd
end
theorem blk_of {X : Cx} {N : List Str} {sc scope : Scope} {own : List (Str × Nat)} (h : blkC N sc scope own = true) (hN : X.N = N) (hs : X.env.scope = sc) : BlkOk X.N X.env.scope scope own := by
  rw [hN, hs]
  exact blkOk_by h
theorem hu64 {k : Nat} {A : Around} (hr : Room k A) : A.units + 64 < cLine := by
  have := hr.un
  omega
theorem bt_abs : bootBuiltins "abs" = some (.builtin "abs") := by decide +kernel
theorem bt_max : bootBuiltins "max" = some (.builtin "max") := by decide +kernel
theorem bt_min : bootBuiltins "min" = some (.builtin "min") := by decide +kernel
theorem bt_len : bootBuiltins "len" = some (.builtin "len") := by decide +kernel
theorem bt_sum : bootBuiltins "sum" = some (.builtin "sum") := by decide +kernel
theorem bt_all : bootBuiltins "all" = some (.builtin "all") := by decide +kernel
theorem bt_any : bootBuiltins "any" = some (.builtin "any") := by decide +kernel
theorem bt_divmod : bootBuiltins "divmod" = some (.builtin "divmod") := by decide +kernel
theorem bt_int : bootBuiltins "int" = some (.type "int") := by decide +kernel
theorem bt_bool : bootBuiltins "bool" = some (.type "bool") := by decide +kernel
theorem bt_str : bootBuiltins "str" = some (.type "str") := by decide +kernel
theorem bt_list : bootBuiltins "list" = some (.type "list") := by decide +kernel
theorem bt_tuple : bootBuiltins "tuple" = some (.type "tuple") := by decide +kernel
theorem bt_dict : bootBuiltins "dict" = some (.type "dict") := by decide +kernel
theorem ints_rp {K : PySem.W.Frag} {B : Hp} : ∀ ns : List Int, RpL K B (ns.map D.int) (ns.map V.int)
  | [] => rfl
  | n :: ns => ⟨_, _, rfl, rfl, ints_rp ns⟩
/-- the script is handed in -/
theorem law_sp {K : PySem.W.Frag} {fn : List D → Ret} {H : Hp} {a : Addr} (ns : List Int) (hl : ns.length ≤ 63) (_ : Only H) (hS : SqL K H a (ns.map V.int)) (h : fn [.frz (ns.map .int)] = .ok (.p (.bl true))) :
    spF K fn [.ref a] H (fun v _ => v = .bl true) (fun _ _ _ => False) := by
  refine ⟨H, [D.frz (ns.map .int)], Ex.refl H, .cons ⟨a, _, rfl, hS, ints_rp ns⟩ .nil, ?_⟩
  rw [h]
  intro B' H' v _ r _
  exact r
end FP
namespace FP
open PySem L2
/-! ## Objects -/
abbrev Fs := List (Str × D)
def putD (f : Str) (d : D) : Fs → Fs
  | [] => [(f, d)]
  | (g, x) :: r => if g = f then (g, d) :: r else (g, x) :: putD f d r
theorem RpF.put {K : PySem.W.Frag} {B : Hp} {f : Str} {d : D} {v : V} (h : Rp K B d v) : ∀ {ds : Fs} {vs : List (Str × V)}, RpF K B ds vs → RpF K B (putD f d ds) (putF f v vs)
  | [], _, e => by rw [show _ = [] from e]; exact ⟨v, [], rfl, h, rfl⟩
  | (n, x) :: ds, _, ⟨w, r, h1, h2, h3⟩ => by
    subst h1
    by_cases hn : n = f
    · subst hn
      rw [putD, putF, if_pos rfl, if_pos rfl]
      exact ⟨v, r, rfl, h, h3⟩
    · rw [putD, putF, if_neg hn, if_neg hn]
      exact ⟨w, _, rfl, h2, RpF.put h h3⟩
section
variable {X : Cx} {W : WX} {p pos apos p1 p2 : Pos} {x m f : Str} {e o : Expr} {es : List Expr} {kws : List Keyword} {As Ks : Rho → Rs (List RV)} {F G : Rho → Rs RV}
/-- self.f = e, self in the slot i -/
def sFld (C : Addr) (i : Nat) (f : Str) (a : Rho → Rs RV) : Rho → Out := fun ρ => (a ρ).thn fun r ρ1 => match (frz r ρ1)[i]? with
  | some (some (.s p C' fs)) => if C' = C ∧ fs.length < 900 then .nx ((frz r ρ1).set i (some (.s p C' (putD f (view ρ1 r) fs)))) else .err
  | some (some (.i C' fs)) => if C' = C ∧ fs.length < 900 then .nx ((frz r ρ1).set i (some (.i C' (putD f (view ρ1 r) fs)))) else .err
  | _ => .err
theorem fs_fld {C : Addr} {i : Nat} (c : Cls X.K C) (n : NoAttr X.K C f) (h : FE X W e F) (hN : X.N[i]? = some x) (hv : Vis X.env.scope x) (hs : swapsWith e (some (.Attribute (.Name x p1) f p2)) pos.line X.env = pure false := by rfl)
    (hd : (x == ("__debug__" : Str)) = false := by decide) (hcd : (x == ("__classdict__" : Str)) = false := by decide) : FS X W (.Assign [.Attribute (.Name x p1) f p2] e pos) (sFld C i f F) := by
  obtain ⟨t, pe, oe⟩ := h.ex
  refine ⟨_, ps_fld (pe_var hN hv hd hcd) pe hs, fun B H σ ρ D S post => ?_⟩
  refine oe B H σ ρ _ S (post.ahead fun r ρ1 B1 H1 S1 st1 f1 post1 v hv => ?_)
  obtain ⟨B2, x2, S2, st2, rp, _⟩ := take1 S1 st1 hv
  split at post1
  · rename_i q C' fs e1
    split at post1
    · rename_i hc
      obtain ⟨rfl, hl⟩ := hc
      obtain ⟨v', e2, rfl, e5, dx, vs, e6, e7⟩ := S2.slot i _ e1
      refine ⟨_, e2, q, C', dx, vs, rfl, e6, c, n, by rw [e7.length]; omega, ?_⟩
      obtain ⟨S3, st3⟩ := mutS (sv' := .s q C' (putD f (view ρ1 r) fs)) (o := .ins C' dx (putF f v vs)) S2 e1 rfl e2 ⟨rfl, e5, dx, _, upd_same, RpF.put rp e7⟩ rfl
      exact post1 B2 _ σ S3 (st2.trans st3)
    · exact post1.elim
  · rename_i C' fs e1
    split at post1
    · rename_i hc
      obtain ⟨rfl, hl⟩ := hc
      obtain ⟨v', e2, q, dx, vs, rfl, e5, e6, e7⟩ := S2.slot i _ e1
      refine ⟨_, e2, q, C', dx, vs, rfl, e6, c, n, by rw [e7.length]; omega, ?_⟩
      obtain ⟨S3, st3⟩ := mutS (sv' := .i C' (putD f (view ρ1 r) fs)) (o := .ins C' dx (putF f v vs)) S2 e1 rfl e2 ⟨q, dx, _, rfl, e5, upd_same, RpF.put rp e7⟩ rfl
      exact post1 B2 _ σ S3 (st2.trans st3)
    · exact post1.elim
  · exact post1.elim
/-! ### __init__ -/
structure KeptI (B H : Hp) (p : Addr) (B' H' : Hp) : Prop where
  bb : Ex B B'
  ex : Ex B' H'
  fr : ∀ a o, a ≠ p → H a = some o → B a = none → H' a = some o ∧ B' a = none
  dom : ∀ a, H' a = none → H a = none
  gh : ∀ a r, r ≠ p → B a = some (.own r) → H r ≠ none → B' a = some (.own r) ∧ H' a = H a
def spI (K : PySem.W.Frag) (C : Addr) (fn : Addr → List D → Option Fs) : Sp := fun vs H Q _ => ∃ B p dx ws ds, vs = .ref p :: ws ∧ Ex B H ∧ B p = none ∧ H p = some (.ins C dx []) ∧ RpL K B ds ws ∧
  match fn p ds with
  | some fs => ∀ B' H' dx' vs', KeptI B H p B' H' → H' p = some (.ins C dx' vs') → B' p = none → RpF K B' fs vs' → Q .non H'
  | none => False
def startI (n : Nat) (p C : Addr) (ds : List D) : Rho := some (.s p C []) :: startR (n - 1) ds
/-- the fields at the end -/
def endI (p C : Addr) (ρ : Rho) : Option Fs := match ρ[(0 : Nat)]? with
  | some (some (.s q C' fs)) => if q = p ∧ C' = C then some fs else none
  | _ => none
def runI (n k : Nat) (C : Addr) (G : Rho → Out) (p : Addr) (ds : List D) : Option Fs := if ds.length = k then match G (startI n p C ds) with
    | .nx ρ => endI p C ρ
    | .rt (.d .non) ρ => endI p C ρ
    | _ => none
  else none
end
section
variable {K : PySem.W.Frag} {B H : Hp}
theorem startI_sr {N : List Str} {y : Str} {p C dx : Addr} {ds : List D} {vs : List V} (ex : Ex B H) (hb : B p = none) (hp : H p = some (.ins C dx [])) (r : RpL K B ds vs) : SR K B H (L2.start (y :: N) (.ref p :: vs)) (startI (N.length + 1) p C ds) := by
  have S := start_sr (N := N) ex r
  have es : L2.start (y :: N) (V.ref p :: vs) = some (.ref p) :: L2.start N vs := by
    unfold L2.start
    simp
  have ei : startI (N.length + 1) p C ds = some (.s p C []) :: startR N.length ds := rfl
  rw [es, ei]
  refine ⟨ex, by rw [List.length_cons, List.length_cons, S.len], fun i sv h => ?_, fun i j sv sv' a h1 o1 h2 o2 h3 h4 => ?_⟩
  · cases i with
    | zero =>
      simp at h; subst h
      exact ⟨.ref p, rfl, rfl, hb, dx, [], hp, rfl⟩
    | succ i => exact S.slot i sv (by simpa using h)
  · have own0 : ∀ {i : Nat} {sv : SV}, (startR N.length ds)[i]? = some (some sv) → sv.owned = true → False := fun {i sv} h o => by
      unfold startR at h
      by_cases hi : i < ds.length
      · rw [List.getElem?_append_left (by simpa using hi), List.getElem?_map] at h
        obtain ⟨d, _, h4⟩ := Option.map_eq_some_iff.mp h
        cases h4
        cases o
      · rw [List.getElem?_append_right (by simpa using hi), List.getElem?_replicate] at h
        split at h <;> cases h
    cases i with
    | zero =>
      cases j with
      | zero => rfl
      | succ j => exact (own0 (by simpa using h2) o2).elim
    | succ i => exact (own0 (by simpa using h1) o1).elim
theorem startI_own {N : List Str} {y : Str} {p C : Addr} {ds : List D} {vs : List V} {a : Addr} (h : OwnAt (L2.start (y :: N) (.ref p :: vs)) (startI (N.length + 1) p C ds) a) : a = p := by
  obtain ⟨i, sv, h1, o1, h3⟩ := h
  cases i with
  | zero =>
    have : L2.start (y :: N) (V.ref p :: vs) = some (.ref p) :: L2.start N vs := by
      unfold L2.start
      simp
    rw [this] at h3
    simp at h3
    exact h3.symm
  | succ i =>
    exfalso
    have h1' : (startR N.length ds)[i]? = some (some sv) := by
      have e : startI (N.length + 1) p C ds = some (.s p C []) :: startR N.length ds := rfl
      rw [e] at h1
      simpa using h1
    unfold startR at h1'
    by_cases hi : i < ds.length
    · rw [List.getElem?_append_left (by simpa using hi), List.getElem?_map] at h1'
      obtain ⟨d, _, h4⟩ := Option.map_eq_some_iff.mp h1'
      cases h4
      cases o1
    · rw [List.getElem?_append_right (by simpa using hi), List.getElem?_replicate] at h1'
      split at h1' <;> cases h1'
end
section
variable {P : Program} {w : World} {K : PySem.W.Frag} {mg : Str → Option Value} {base : Heap}
theorem fn_okI {x qual : Str} {st : Stmt} {f C : Addr} {fd : FuncData} {y : Str} {N ps : List Str} {k : Nat} {G : Rho → Out} (F : Fun K x qual st f fd) (S : FnScope (y :: N) (y :: ps) (defScope st))
    (hbody : ∀ (cdv : Value) (A : Around) (outer : List PySem.Env) (s : Shared) (H : Hp) (E : XK), Room k (A.deeper (PyProof.Rows.envOfC qual (defScope st) s.heap.objs.size f cdv)) →
      FB (cxOf CX0 P w K mg base (y :: N) qual (defScope st) f cdv A outer s H E).nox W0 (defBody st) G) :
    FnOk P w K mg base CX0 (k + 1) f fd (y :: ps) (spI K C (runI (N.length + 1) ps.length C G)) := by
  refine F.ok S (fun vs H Q E h => ?_) (fun cdv A outer s H vs Q E hr h => ?_)
  · obtain ⟨B, p, dx, ws, ds, rfl, _, _, _, r, post⟩ := h
    unfold runI at post
    by_cases hl : ds.length = ps.length
    · rw [List.length_cons, List.length_cons, r.length, hl]
    · rw [if_neg hl] at post; exact post.elim
  · obtain ⟨B, p, dx, ws, ds, rfl, ex, hb, hp, r, post⟩ := h
    obtain ⟨t, pb, o⟩ := (hbody cdv A outer s H E hr).ex
    refine ⟨t, pb, ?_⟩
    have fin : ∀ {ρ' : Rho} {B' H' : Hp} {σ' : St}, SR K B' H' σ' ρ' → Step B H (L2.start (y :: N) (.ref p :: ws)) (startI (N.length + 1) p C ds) B' H' σ' ρ' → (match endI p C ρ' with
        | some fs => ∀ B' H' dx' vs', KeptI B H p B' H' → H' p = some (.ins C dx' vs') → B' p = none → RpF K B' fs vs' → Q .non H'
        | none => False) → Q .non H' := fun {ρ' B' H' σ'} S' st' q => by
      unfold endI at q
      split at q
      · rename_i fs eq
        split at eq
        · rename_i q' C' fs' e0
          split at eq
          · rename_i hc
            obtain ⟨rfl, rfl⟩ := hc
            cases eq
            obtain ⟨v, g1, rfl, g2, dx', vs', g3, g4⟩ := S'.slot 0 _ e0
            refine q B' H' dx' vs' ⟨st'.bb, S'.ex, fun a o' hne h1 h2 => ?_, st'.dom, fun a r hne h1 h2 => ?_⟩ g3 g2 g4
            · obtain ⟨m1, m2, _⟩ := st'.fr a o' h1 h2 (fun z => hne (startI_own z))
              exact ⟨m1, m2⟩
            · obtain ⟨m1, m2, _⟩ := st'.gh a r h1 h2 (fun z => hne (startI_own z))
              exact ⟨m1, m2⟩
          · cases eq
        · cases eq
      · exact q.elim
    unfold runI at post
    by_cases hl : ds.length = ps.length
    · rw [if_pos hl] at post
      refine o B H _ _ _ (startI_sr ex hb hp r) ?_
      cases eg : G (startI (N.length + 1) p C ds) with
      | err => rw [eg] at post; exact post.elim
      | bk _ => rw [eg] at post; exact post.elim
      | ct _ => rw [eg] at post; exact post.elim
      | exc x ρ' => rw [eg] at post; exact post.elim
      | nx ρ' =>
        rw [eg] at post
        exact fun B' H' σ' S' st' => fin S' st' post
      | rt r' ρ' =>
        rw [eg] at post
        intro B' H' σ' v S' st' hv
        cases r' with
        | d d =>
          cases d with
          | non =>
            have hv' : v = .non := hv
            subst hv'
            exact fin S' st' post
          | _ => exact post.elim
        | own sv => exact post.elim
        | slot i => exact post.elim
    · rw [if_neg hl] at post; exact post.elim
end
end FP
namespace FP
open PySem L2
/-- the fields that an __init__ leaves, if they hang on the data alone -/
noncomputable def initR (fn : Addr → List D → Option Fs) (ds : List D) : Option Fs := open Classical in if h : ∃ fs, ∀ p, fn p ds = some fs then some h.choose else none
theorem initR_ok {fn : Addr → List D → Option Fs} {ds : List D} {fs : Fs} (h : ∀ p, fn p ds = some fs) : initR fn ds = some fs := by
  have hx : ∃ fs, ∀ p, fn p ds = some fs := ⟨fs, h⟩
  unfold initR
  rw [dif_pos hx]
  have := hx.choose_spec 0
  rw [h 0] at this
  exact this.symm
theorem initR_all {fn : Addr → List D → Option Fs} {ds : List D} {fs : Fs} (h : initR fn ds = some fs) (p : Addr) : fn p ds = some fs := by
  unfold initR at h
  split at h
  · rename_i hx
    cases h
    exact hx.choose_spec p
  · cases h
noncomputable def mkF (C : Addr) (fn : Addr → List D → Option Fs) (ds : List D) : Ret := match initR fn ds with
  | some fs => .ok (.i C fs)
  | none => .err
theorem mk_sp {K : PySem.W.Frag} {C : Addr} {fn : Addr → List D → Option Fs} {vs : List V} {H : Hp} {Q : VK} {E E' : XK} (h : spF K (mkF C fn) vs H Q E) {x dx : Addr} (hx : H x = none) (hdx : H dx = none) (hne : dx ≠ x) :
    spI K C fn (.ref x :: vs) (upd (upd H dx (.own x)) x (.ins C dx [])) (fun v H2 => v = .non ∧ Q (.ref x) H2) E' := by
  obtain ⟨B, ds, ex, r, post⟩ := h
  unfold mkF at post
  split at post
  · rename_i fs e
    have bx : B x = none := by
      cases eb : B x with
      | none => rfl
      | some o => exact absurd hx (ex x o eb).ne
    have same : ∀ a, H a ≠ none → upd (upd H dx (.own x)) x (.ins C dx []) a = H a := fun a hn => by
      rw [upd_ne (fun z => hn (by rw [z]; exact hx)), upd_ne (fun z => hn (by rw [z]; exact hdx))]
    refine ⟨B, x, dx, vs, ds, rfl, fun a o h => ?_, bx, upd_same, r, ?_⟩
    · have h1 := ex a o h
      rw [same a h1.ne]
      exact h1
    · rw [initR_all e x]
      intro B' H' dx' vs' kp hp hb rf
      refine ⟨rfl, post B' H' _ ⟨kp.bb, kp.ex, fun a o h1 h2 => ?_, fun a h1 => ?_, fun c r h1 h2 => ?_⟩ ⟨x, dx', vs', rfl, hb, hp, rf⟩ fun _ => ⟨rfl, x, rfl, hx⟩⟩
      · refine kp.fr a o (ne_of_none h1 hx) ?_ h2
        rw [upd_ne (ne_of_none h1 hx), upd_ne (ne_of_none h1 hdx)]
        exact h1
      · have := kp.dom a h1
        cases eh : H a with
        | none => rfl
        | some o =>
          rw [upd_ne (ne_of_none eh hx), upd_ne (ne_of_none eh hdx), eh] at this
          cases this
      · obtain ⟨m1, m2⟩ := kp.gh c r (fun z => h2 (by rw [z]; exact hx)) h1 (by rw [same r h2]; exact h2)
        exact ⟨m1, by rw [m2, same c (ex c _ h1).1]⟩
  · exact post.elim
section
variable {X : Cx} {W : WX} {p pos apos p1 p2 : Pos} {x m : Str} {e o : Expr} {es : List Expr} {kws : List Keyword} {As Ks : Rho → Rs (List RV)} {F : Rho → Rs RV} {k n : Nat} {f C g : Addr} {fd : FuncData} {ps ks : List Str} {dds : List D} {dvs : List V} {ds : List Value} {fi : Addr → List D → Option Fs} {fn : List D → Ret}
theorem own_mem {K : PySem.W.Frag} {H0 B H : Hp} {σ : St} {ρ : Rho} : ∀ {rs : List RV} {vs : List V} {v : V}, RVl K H0 B H σ ρ rs vs → v ∈ owns rs vs → ∃ a u, v = .ref a ∧ H a = some u ∧ H0 a = none
  | [], _, _, h, hm => by rw [show _ = [] from h] at hm; simp [owns] at hm
  | .d d :: rs, _, v, ⟨w, ws, h1, _, h3⟩, hm => by subst h1; exact own_mem h3 hm
  | .slot i :: rs, _, v, ⟨w, ws, h1, _, h3⟩, hm => by subst h1; exact own_mem h3 hm
  | .own sv :: rs, _, v, ⟨w, ws, h1, h2, h3⟩, hm => by
    subst h1
    simp only [owns, List.mem_cons] at hm
    rcases hm with rfl | hm
    · obtain ⟨q1, q2, _, a, q3, q4, _⟩ := h2
      obtain ⟨a', u, c1, c2, _⟩ := q2.cell q1
      rw [q3] at c1; cases c1
      exact ⟨a, u, q3, c2, q4⟩
    · exact own_mem h3 hm
theorem owns_app : ∀ {rs : List RV} {vs : List V} {zs : List RV} {ws : List V}, vs.length = rs.length → owns (rs ++ zs) (vs ++ ws) = owns rs vs ++ owns zs ws
  | [], [], _, _, _ => rfl
  | r :: rs, [], _, _, h => by cases h
  | [], v :: vs, _, _, h => by cases h
  | .d d :: rs, v :: vs, _, _, h => owns_app (rs := rs) (by simpa using h)
  | .slot i :: rs, v :: vs, _, _, h => owns_app (rs := rs) (by simpa using h)
  | .own sv :: rs, v :: vs, zs, ws, h => by
    show v :: owns (rs ++ zs) (vs ++ ws) = v :: (owns rs vs ++ owns zs ws)
    rw [owns_app (by simpa using h)]
theorem rvl_app {K : PySem.W.Frag} {H0 B H : Hp} {σ : St} {ρ : Rho} : ∀ {rs zs : List RV} {vs ws : List V}, RVl K H0 B H σ ρ rs vs → RVl K H0 B H σ ρ zs ws → RVl K H0 B H σ ρ (rs ++ zs) (vs ++ ws)
  | [], _, _, _, h, h' => by rw [show _ = [] from h]; exact h'
  | r :: rs, _, _, _, ⟨v, ws, h1, h2, h3⟩, h' => by subst h1; exact ⟨v, _, rfl, h2, rvl_app h3 h'⟩
theorem rvl_later {K : PySem.W.Frag} {H0 B H B' H' : Hp} {σ : St} {ρ ρ' : Rho} (st : Step B H σ ρ B' H' σ ρ') (fl : Fills ρ ρ') : ∀ {rs : List RV} {vs : List V}, RVl K H0 B H σ ρ rs vs → RVl K H0 B' H' σ ρ' rs vs
  | [], _, h => h
  | r :: rs, _, ⟨v, ws, h1, h2, h3⟩ => ⟨v, ws, h1, h2.later st fl, rvl_later st fl h3⟩
theorem rvl_h0 {K : PySem.W.Frag} {H0 H1 B H : Hp} {σ : St} {ρ : Rho} (d : ∀ a, H1 a = none → H0 a = none) : ∀ {rs : List RV} {vs : List V}, RVl K H1 B H σ ρ rs vs → RVl K H0 B H σ ρ rs vs
  | [], _, h => h
  | r :: rs, _, ⟨v, ws, h1, h2, h3⟩ => ⟨v, ws, h1, h2.h0 d, rvl_h0 d h3⟩
theorem rvs_app {K : PySem.W.Frag} {H0 B1 H1 B2 H2 : Hp} {σ : St} {ρ0 ρ1 ρ2 : Rho} {B0 : Hp} {rs zs : List RV} {vs ws : List V} (st1 : Step B0 H0 σ ρ0 B1 H1 σ ρ1) (st2 : Step B1 H1 σ ρ1 B2 H2 σ ρ2) (fl : Fills ρ1 ρ2) (h : RVs K H0 B1 H1 σ ρ1 rs vs) (h' : RVs K H1 B2 H2 σ ρ2 zs ws) :
    RVs K H0 B2 H2 σ ρ2 (rs ++ zs) (vs ++ ws) := by
  refine ⟨rvl_app (rvl_later st2 fl h.1) (rvl_h0 st1.dom h'.1), ?_⟩
  rw [owns_app (rvl_len h.1)]
  refine List.nodup_append.mpr ⟨h.2, h'.2, fun a ha b hb hab => ?_⟩
  subst hab
  obtain ⟨q, u, e1, e2, _⟩ := own_mem h.1 ha
  obtain ⟨q', u', e3, _, e4⟩ := own_mem h'.1 hb
  rw [e1] at e3; cases e3
  rw [e2] at e4; cases e4
/-- C(e, .., k = v, ..), every parameter given, in the parameters' order; or with known values for the rest -/
def eMakeK (fn : List D → Ret) (as ks : Rho → Rs (List RV)) (dds : List D) : Rho → Rs RV := fun ρ => (as ρ).bind fun rs ρ1 => (ks ρ1).bind fun zs ρ2 => ofRet (fn ((rs ++ zs).map (view ρ2) ++ dds)) (rs ++ zs) ρ2
theorem fe_makeK {gf : List Value → List Value → List Value} {gV : List V → List V → List V} (M : Mk X.K C f) (Fn : FnOk X.prog X.w X.K X.mg X.base CX0 k f fd ps (spI X.K C fi)) (hr : Room (k + 1) X.A) (hg : Gl X x) (hm : X.mg x = some (.ref C)) (hb : KBn X.K fd ps ((e :: es).length + 1) ks gf gV)
    (hgv : ∀ (y : V) (vs zs : List V), vs.length = (e :: es).length → zs.length = ks.length → gV (y :: vs) zs = y :: (vs ++ zs ++ dvs)) (hdd : ∀ B, RpL X.K B dds dvs)
    (ha : FA X W (e :: es) As) (hk : FK X W kws Ks) (la : ∀ ρ rs ρ', As ρ = .ok rs ρ' → rs.length = (e :: es).length) (lk : ∀ ρ rs ρ', Ks ρ = .ok rs ρ' → rs.length = ks.length)
    (hall : (backToKw pos (keywordEach kws X.env)).all (·.1.isSome) = true := by rfl) (hks : (backToKw pos (keywordEach kws X.env)).filterMap (·.1) = ks := by rfl) (hdb : (x == ("__debug__" : Str)) = false := by decide)
    (he : starEach (e :: es) X.env = (false, eval e X.env) :: starEach es X.env := by rfl) (hpl : ((backTo pos (starEach (e :: es) X.env)).any (·.1) || (backToKw pos (keywordEach kws X.env)).any (·.1.isNone)) = false := by rfl) :
    FE X W (.Call (.Name x p) (e :: es) kws pos) (eMakeK (mkF C fi) As Ks dds) := by
  obtain ⟨t, pa, oa⟩ := ha.ex
  obtain ⟨tk, pk, ok⟩ := hk.ex
  refine ⟨_, pe_makeK M Fn hr hg hm hb pass0 pa pk hall hks hdb he hpl, fun B H σ ρ Q S post => ?_⟩
  cases e1 : As ρ with
  | err => unfold eMakeK at post; rw [e1] at post; exact post.elim
  | exc y ρ1 =>
    unfold eMakeK at post; rw [e1] at post
    refine oa B H σ ρ _ S ?_
    rw [e1]
    exact post
  | ok rs ρ1 =>
    unfold eMakeK at post; rw [e1] at post
    refine oa B H σ ρ _ S ?_
    rw [e1]
    intro B1 H1 S1 st1 f1 vs hvs
    cases e2 : Ks ρ1 with
    | err => rw [bind_ok, e2] at post; exact post.elim
    | exc y ρ2 =>
      rw [bind_ok, e2] at post
      refine ok B1 H1 σ ρ1 _ S1 ?_
      rw [e2]
      exact fun B' H' cls d S' st' xr => post B' H' cls d S' (st1.trans st') (xr.h0 st1.dom)
    | ok zs ρ2 =>
      rw [bind_ok, e2] at post
      refine ok B1 H1 σ ρ1 _ S1 ?_
      rw [e2]
      intro B2 H2 S2 st2 f2 ws hws
      have lv : vs.length = (e :: es).length := by rw [rvl_len hvs.1]; exact la _ _ _ e1
      have lw : ws.length = ks.length := by rw [rvl_len hws.1]; exact lk _ _ _ e2
      refine ⟨lv, lw, fun q dx hq hdx hne => ?_⟩
      rw [hgv _ _ _ lv lw]
      exact mk_sp (call_post (E := fun _ _ _ => False) S2 (st1.trans st2) (f1.trans f2) (rvs_app st1 st2 f2 hvs hws) hdd post) hq hdx hne
/-- o.m(e, ..) of a method that lets nothing out -/
def eMeth (C : Addr) (m : Str) (fn : List D → Ret) (o : Rho → Rs RV) (as : Rho → Rs (List RV)) (dds : List D) : Rho → Rs RV := fun ρ => (o ρ).bind fun r ρ1 => match view ρ1 r with
  | .ins C' fs => if C' = C ∧ fs.lookup m = none then (as ρ1).bind fun rs ρ2 => ofRet (fn (view ρ2 r :: (rs.map (view ρ2) ++ dds))) (r :: rs) ρ2 else .err
  | _ => .err
theorem fe_meth {pl : Sem Bool} (ho : FE X W o F) (c : Cls X.K C) (hme : Meth X.K C m f) (Fn : FnOk X.prog X.w X.K X.mg X.base CX0 k f fd ps (spF X.K fn)) (hr : Room k X.A) (hb : Binds X.K fd ps ds) (hd : Vals dvs ds) (hdd : ∀ B, RpL X.K B dds dvs) (ha : FA X W (e :: es) As)
    (hst : starEach (e :: es) X.env = (false, eval e X.env) :: starEach es X.env := by rfl) (hpl : (backTo pos (starEach es X.env)).any (·.1) = false := by rfl)
    (ht : eval (.Call (.Attribute o m apos) (e :: es) [] pos) X.env = (do
      let ov ← eval o X.env
      standAt apos.atName
      let (f, first) ← holding [ov] (getMethod ov m pl)
      callWith pos f first (backTo pos (starEach (e :: es) X.env)) (backToKw pos (keywordEach [] X.env))) := by rfl) :
    FE X W (.Call (.Attribute o m apos) (e :: es) [] pos) (eMeth C m fn F As dds) := by
  obtain ⟨to, po, oo⟩ := ho.ex
  obtain ⟨t, pa, oa⟩ := ha.ex
  refine ⟨_, pe_meth po c hme Fn hr hb hd pass0 pa hst hpl ht, fun B H σ ρ Q S post => ?_⟩
  refine oo B H σ ρ _ S (post.bind0 fun r ρ1 B1 H1 S1 st1 f1 post1 v hv => ?_)
  split at post1
  · rename_i C' fs e1
    split at post1
    · rename_i hc
      obtain ⟨rfl, hl⟩ := hc
      obtain ⟨a, dx, vs, rfl, h1, h2⟩ := hv.fields S1 e1
      refine ⟨a, dx, vs, rfl, h1, RpF.lookup_none h2 hl, ?_⟩
      refine oa B1 H1 σ ρ1 _ S1 (post1.bind st1 f1 fun rs ρ2 B2 H2 S2 st2 f2 post2 us hus => ?_)
      exact call_post (rs := r :: rs) (vs := .ref a :: us) S2 (st1.trans st2) (f1.trans f2) (rvs_cons st1 st2 f2 hv hus) hdd post2
    · exact post1.elim
  · exact post1.elim
theorem fe_meth0 {pl : Sem Bool} (ho : FE X W o F) (c : Cls X.K C) (hme : Meth X.K C m f) (Fn : FnOk X.prog X.w X.K X.mg X.base CX0 k f fd ps (spF X.K fn)) (hr : Room k X.A) (hb : Binds X.K fd ps ds) (hd : Vals dvs ds) (hdd : ∀ B, RpL X.K B dds dvs)
    (ht : eval (.Call (.Attribute o m apos) [] [] pos) X.env = (do
      let ov ← eval o X.env
      standAt apos.atName
      let (f, first) ← holding [ov] (getMethod ov m pl)
      callWith pos f first (backTo pos (starEach [] X.env)) (backToKw pos (keywordEach [] X.env))) := by rfl) :
    FE X W (.Call (.Attribute o m apos) [] [] pos) (eMeth C m fn F eNil dds) := by
  obtain ⟨to, po, oo⟩ := ho.ex
  refine ⟨_, pe_meth0 po c hme Fn hr hb hd pass0 ht, fun B H σ ρ Q S post => ?_⟩
  refine oo B H σ ρ _ S (post.bind0 fun r ρ1 B1 H1 S1 st1 f1 post1 v hv => ?_)
  split at post1
  · rename_i C' fs e1
    split at post1
    · rename_i hc
      obtain ⟨rfl, hl⟩ := hc
      obtain ⟨a, dx, vs, rfl, h1, h2⟩ := hv.fields S1 e1
      refine ⟨a, dx, vs, rfl, h1, RpF.lookup_none h2 hl, ?_⟩
      exact call_post (rs := [r]) (vs := [.ref a]) S1 st1 f1 (rvs_cons st1 Step.refl Fills.refl hv ⟨rfl, List.nodup_nil⟩) hdd post1
    · exact post1.elim
  · exact post1.elim
/-- o.f, a property -/
def eProp (C : Addr) (fn : List D → Ret) (o : Rho → Rs RV) : Rho → Rs RV := fun ρ => (o ρ).bind fun r ρ1 => match view ρ1 r with
  | .ins C' fs => if C' = C then ofRet (fn [view ρ1 r]) [r] ρ1 else .err
  | _ => .err
theorem fe_prop {q : Addr} {pn : Str} (ho : FE X W o F) (c : Cls X.K C) (hp : PropOf X.K C pn q g) (Fn : FnOk X.prog X.w X.K X.mg X.base CX0 k g fd ps (spF X.K fn)) (hr : Room (k + 1) X.A) (hb : Binds X.K fd ps ([] : List Value))
    (hab : attributeBase o pn X.env (eval o X.env) = eval o X.env := by rfl) : FE X W (.Attribute o pn pos) (eProp C fn F) := by
  obtain ⟨to, po, oo⟩ := ho.ex
  refine ⟨_, pe_prop (dvs := []) po c hp Fn hr hb .nil pass0 hab, fun B H σ ρ Q S post => ?_⟩
  refine oo B H σ ρ _ S (post.bind0 fun r ρ1 B1 H1 S1 st1 f1 post1 v hv => ?_)
  split at post1
  · rename_i C' fs e1
    split at post1
    · rename_i hc
      subst hc
      obtain ⟨a, dx, vs, rfl, h1, h2⟩ := hv.fields S1 e1
      refine ⟨a, dx, vs, rfl, h1, ?_⟩
      have := call_post (rs := [r]) (vs := [.ref a]) (dvs := []) (dds := []) (E := fun _ _ _ => False) (fn := fn) S1 st1 f1 (rvs_cons st1 Step.refl Fills.refl hv ⟨rfl, List.nodup_nil⟩) (fun _ => rfl) (by simpa using post1)
      exact this
    · exact post1.elim
  · exact post1.elim
end
end FP
namespace FP
open PySem L2
theorem bind_bind0 {α β γ : Type} {x : Rs α} {f : α → Rho → Rs β} {g : β → Rho → Rs γ} : (x.bind f).bind g = x.bind fun a ρ => (f a ρ).bind g := by cases x <;> rfl
section
variable {X : Cx} {W : WX} {pos tpos : Pos} {x : Str} {tg e : Expr} {F : Rho → Rs RV}
/-! ## A module's constants -/
theorem fe_gint {n : Int} (hg : Gl X x) (hm : ∃ t, X.mg x = some (.int n t)) (hd : (x == ("__debug__" : Str)) = false := by decide) : FE X W (.Name x pos) (eC (.int n)) := by
  obtain ⟨t, h⟩ := hm
  exact fe_glob (v := .int n) hg h ⟨t, rfl⟩ (fun _ => rfl) hd
theorem fe_gstr {n : Str} (hg : Gl X x) (hm : ∃ t, X.mg x = some (.str n t)) (hd : (x == ("__debug__" : Str)) = false := by decide) : FE X W (.Name x pos) (eC (.str n)) := by
  obtain ⟨t, h⟩ := hm
  exact fe_glob (v := .str n) hg h ⟨t, rfl⟩ (fun _ => rfl) hd
/-- a chain of two comparisons as a value -/
def eChn (t : Rho → Rs Bool) : Rho → Rs RV := fun ρ => (t ρ).bind fun k ρ1 => .ok (.d (.bl k)) ρ1
theorem fe_chain {a b c : Expr} {A Bf Cf : Rho → Rs RV} {op op' : CmpOp} {f f' : D → D → Option D} (ho : Op2 X (compareOp op) f) (ho' : Op2 X (compareOp op') f') (ha : FE X W a A) (hb : FE X W b Bf) (hc : FE X W c Cf) (hm : lastMarks [op, op'] [b, c] = false := by rfl) :
    FE X W (.Compare a [op, op'] [b, c] pos) (eChn (tChn f f' A Bf Cf)) := by
  obtain ⟨r, hr, hf⟩ := ho.ex
  obtain ⟨r', hr', hf'⟩ := ho'.ex
  obtain ⟨ta, pa, oa⟩ := ha.ex
  obtain ⟨tb, pb, ob⟩ := hb.ex
  obtain ⟨tc, pc, oc⟩ := hc.ex
  refine ⟨_, pe_chain hr hr' pa pb pc hm, fun B H σ ρ Q S post => ?_⟩
  unfold eChn tChn at post
  rw [bind_bind0] at post
  refine oa B H σ ρ _ S (post.bind0 fun x ρ1 B1 H1 S1 st1 f1 post1 v hv => ?_)
  rw [bind_bind0] at post1
  refine ob B1 H1 σ ρ1 _ S1 (post1.bind st1 f1 fun y ρ2 B2 H2 S2 st2 f2 post2 w hw => ?_)
  split at post2
  · rename_i e
    refine hf H2 v w _ _ _ _ ((hv.later st2 f2).view S2) (hw.view S2) e fun z hz => ⟨true, hz H2, ?_⟩
    rw [bind_bind0] at post2
    refine oc B2 H2 σ ρ2 _ S2 (post2.bind (st1.trans st2) (f1.trans f2) fun z3 ρ3 B3 H3 S3 st3 f3 post3 u hu => ?_)
    split at post3
    · rename_i k e'
      exact hf' H3 w u _ _ _ _ ((hw.later st3 f3).view S3) (hu.view S3) e' fun z hz => post3 B3 H3 S3 ((st1.trans st2).trans st3) ((f1.trans f2).trans f3) z (hz B3)
    · exact post3.elim
  · rename_i e
    exact hf H2 v w _ _ _ _ ((hv.later st2 f2).view S2) (hw.view S2) e fun z hz => ⟨false, hz H2, post2 _ _ S2 (st1.trans st2) (f1.trans f2) _ rfl⟩
  · exact post2.elim
/-! ## join -/
def strsD : List D → Option (List Str)
  | [] => some []
  | .str i :: ds => (strsD ds).map (i :: ·)
  | _ => none
theorem strsD_rp {K : PySem.W.Frag} {B : Hp} : ∀ {ds : List D} {vs : List V} {ns : List Str}, strsD ds = some ns → RpL K B ds vs → vs = ns.map V.str
  | [], _, _, e, h => by cases e; exact h
  | d :: ds, _, ns, e, ⟨v, r, h1, h2, h3⟩ => by
    subst h1
    cases d with
    | str i =>
      obtain ⟨ms, e1, rfl⟩ := Option.map_eq_some_iff.mp (show (strsD ds).map (i :: ·) = some ns from e)
      rw [rp_str h2, strsD_rp e1 h3]; rfl
    | _ => cases e
def eJoin (a b : Rho → Rs RV) : Rho → Rs RV := fun ρ => (a ρ).bind fun x ρ1 => match view ρ1 x with
  | .str s => (b ρ1).bind fun y ρ2 => match (view ρ2 y).items.bind strsD with
    | some ys => if (ys.map (·.length)).sum + ys.length * s.length ≤ 100000 then .ok (.d (.str (Txt.join s ys))) ρ2 else .err
    | none => .err
  | _ => .err
theorem fe_join {a b : Expr} {A Bf : Rho → Rs RV} {apos : Pos} (ha : FE X W a A) (hb : FE X W b Bf) (hs : starEach [b] X.env = [(false, eval b X.env)] := by rfl) (hbase : attributeBase a "join" X.env (eval a X.env) = eval a X.env := by rfl) (hline : (apos.endLine == pos.line) = true := by rfl) :
    FE X W (.Call (.Attribute a "join" apos) [b] [] pos) (eJoin A Bf) := by
  obtain ⟨ta, pa, oa⟩ := ha.ex
  obtain ⟨tb, pb, ob⟩ := hb.ex
  refine ⟨_, pe_join pa pb hs hbase hline, fun B H σ ρ Q S post => ?_⟩
  refine oa B H σ ρ _ S (post.bind0 fun x ρ1 B1 H1 S1 st1 f1 post1 v hv => ?_)
  split at post1
  · rename_i s e1
    have g1 := hv.view S1
    rw [e1] at g1
    cases rp_str g1
    refine ⟨⟨s, rfl⟩, ob B1 H1 σ ρ1 _ S1 (post1.bind st1 f1 fun y ρ2 B2 H2 S2 st2 f2 post2 w hw => ?_)⟩
    split at post2
    · rename_i ys e2
      split at post2
      · rename_i hl
        obtain ⟨xs, e3, e4⟩ := Option.bind_eq_some_iff.mp e2
        obtain ⟨p, vs, rfl, h1, h2⟩ := items_rp e3 (hw.view S2)
        cases strsD_rp e4 h2
        exact ⟨s, p, ys, rfl, rfl, h1, by omega, post2 _ _ S2 (st1.trans st2) (f1.trans f2) _ rfl⟩
      · exact post2.elim
    · exact post2.elim
  · exact post1.elim
/-! ## A text or a sequence, item by item -/
def iAny (f : Rho → Rs RV) : Rho → Rs (List D) := fun ρ => match f ρ with
  | .ok r ρ1 => match view ρ1 r with
    | .str _ => iStrF f ρ
    | _ => iSeq f ρ
  | _ => iSeq f ρ
theorem fi_any (h : FE X W e F) : FI X W tg e (iAny F) := by
  obtain ⟨w1, p1, o1⟩ := (fi_seq (tg := tg) h).ex
  obtain ⟨w2, p2, o2⟩ := (fi_str (tg := tg) h).ex
  refine ⟨fun σ H R => w1 σ H R ∨ w2 σ H R, ⟨fun pins s σ H R I h => ?_⟩, fun B H σ ρ R S post => ?_⟩
  · rcases h with h | h
    · exact p1.run pins s σ H R I h
    · exact p2.run pins s σ H R I h
  · unfold iAny at post
    split at post
    · split at post
      · exact .inr (o2 B H σ ρ R S post)
      · exact .inl (o1 B H σ ρ R S post)
    · exact .inl (o1 B H σ ρ R S post)
end
section
variable {K : PySem.W.Frag} {x qual : Str} {st : Stmt} {f : Addr} {fd : FuncData} {ps ks : List Str} {n : Nat}
theorem kbn_all (F : Fun K x qual st f fd) (h : ∀ (kV doc pm : Value) (an : Option Addr) (cdv ct : Value) (us ws : List Value), us.length = n → ws.length = ks.length → bindArgs (PySem.W.fnOf x qual (defArgs st) (defBody st) (defScope st) .none kV doc pm an cdv ct) ⟨us, ks.zip ws⟩ = pure (ps.zip (us ++ ws))) :
    KBn K fd ps n ks (fun us ws => us ++ ws) (fun vs zs => vs ++ zs) := by
  obtain ⟨oc, od, kV, doc, pm, an, cdv, ct, osl, rfl, lk, hcd⟩ := F.ex
  exact ⟨fun s us ws _ l1 l2 => .of_eq (h kV doc pm an cdv ct us ws l1 l2), fun r1 r2 => Vals.append r1 r2⟩
end
theorem len_nil {ρ : Rho} {rs : List RV} {ρ' : Rho} (h : eNil ρ = .ok rs ρ') : rs.length = 0 := by cases h; rfl
theorem len_cons {a : Rho → Rs RV} {as : Rho → Rs (List RV)} {n : Nat} (hn : ∀ ρ rs ρ', as ρ = .ok rs ρ' → rs.length = n) : ∀ ρ rs ρ', eCons a as ρ = .ok rs ρ' → rs.length = n + 1 := fun ρ rs ρ' h => by
  unfold eCons at h
  cases e : a ρ with
  | err => rw [e] at h; cases h
  | exc x ρ1 => rw [e] at h; cases h
  | ok r ρ1 =>
    rw [e] at h
    cases e2 : as ρ1 with
    | err => simp only [bind_ok, e2] at h; cases h
    | exc x ρ2 => simp only [bind_ok, e2] at h; cases h
    | ok rs2 ρ2 =>
      simp only [bind_ok, e2] at h
      cases h
      rw [List.length_cons, hn _ _ _ e2]
/-- law's promise -/
def spLaw (K : PySem.W.Frag) : Sp := fun vs H Q _ => ∃ (a : Addr) (ns : List Int), vs = [.ref a] ∧ SqL K H a (ns.map V.int) ∧ ns.length ≤ 63 ∧ ∀ H', Q (.bl true) H'
theorem law_ok {P : Program} {w : World} {K : PySem.W.Frag} {mg : Str → Option Value} {base : Heap} {k : Nat} {f : Addr} {fd : FuncData} {x : Str} {fn : List D → Ret} (F : FnOk P w K mg base CX0 k f fd [x] (spF K fn)) (h : ∀ ns : List Int, ns.length ≤ 63 → fn [.frz (ns.map .int)] = .ok (.p (.bl true))) :
    FnOk P w K mg base CX0 k f fd [x] (spLaw K) := by
  refine F.imp (fun vs H Q E hs => ?_)
  · obtain ⟨a, ns, rfl, hS, hl, k⟩ := hs
    refine ⟨H, [D.frz (ns.map .int)], Ex.refl H, .cons ⟨a, _, rfl, hS, ints_rp ns⟩ .nil, ?_⟩
    rw [h ns hl]
    intro B' H' v _ r _
    have hv : v = .bl true := r
    subst hv
    exact k H'
end FP
namespace FP
open PySem L2
section
variable {X : Cx} {W : WX} {pos : Pos}
/-! ## a, b = e, f -/
def sPar (i j : Nat) (as : Rho → Rs (List RV)) : Rho → Out := fun ρ => (as ρ).thn fun rs ρ1 => match rs with
  | [r, q] => .nx (((frzs rs ρ1).set i (some (.p (view ρ1 r)))).set j (some (.p (view ρ1 q))))
  | _ => .err
theorem fs_par {i j : Nat} {x y : Str} {a b : Expr} {As : Rho → Rs (List RV)} {px py pt : Pos} {kt k2 pt2} (ha : FA X W [a, b] As) (hc : X.calm = true) (hN : X.N.Nodup) (hi : X.N[i]? = some x) (hj : X.N[j]? = some y) (hij : i ≠ j)
    (hx : X.env.scope.names.lookup x = some .local) (hy : X.env.scope.names.lookup y = some .local)
    (hw : swappedStores [.Tuple [.Name x px, .Name y py] kt pt] (.Tuple [a, b] k2 pt2) X.env = pure (some [x, y]) := by rfl)
    (hs : swapsWithSole [.Tuple [.Name x px, .Name y py] kt pt] (.Tuple [a, b] k2 pt2) pos.line X.env = pure false := by rfl) :
    FS X W (.Assign [.Tuple [.Name x px, .Name y py] kt pt] (.Tuple [a, b] k2 pt2) pos) (sPar i j As) := by
  obtain ⟨t, p, o⟩ := ha.ex
  refine ⟨_, ps_par hc hN hi hj hij hx hy p hw hs, fun B H σ ρ D S post => ?_⟩
  refine o B H σ ρ _ S (post.ahead fun rs ρ1 B1 H1 S1 st1 f1 post1 vs hvs => ?_)
  obtain ⟨B2, x2, S2, st2, f2, rp, _, _⟩ := takes S1 st1 hvs.1 hvs.2
  split at post1
  · rename_i r q
    obtain ⟨v, _, rfl, h1, w, _, rfl, h2, rfl⟩ := rp
    refine ⟨v, w, rfl, ?_⟩
    exact post1 B2 H1 _ (setP (setP S2 h1) h2) (st2.own fun _ z => setP_own (setP_own z))
  · exact post1.elim
end
end FP
namespace FP
open PySem L2
/-! ## Evaluation -/
section
variable {ρ ρ1 : Rho} {i j : Nat} {d d' : D} {a b c f g : Rho → Rs RV} {s t : Rho → Out} {as bs : Rho → Rs (List RV)} {T U : Rho → Rs Bool} {o : D → D → Option D} {sv : SV}
@[simp high] theorem get_zero {α : Type} {x : α} {l : List α} : (x :: l)[0]? = some x := of_rfl rfl
@[simp high] theorem get_succ {α : Type} {x : α} {l : List α} {n : Nat} : (x :: l)[n + 1]? = l[n]? := of_rfl rfl
@[simp] theorem eC_ev : eC d ρ = .ok (.d d) ρ := of_rfl rfl
@[simp] theorem eVar_ev : eVar i ρ = match ρ[i]? with
  | some (some (.p d)) => .ok (.d d) ρ
  | some (some (.t xs)) => .ok (.d (.lst (OT.toDs xs))) (ρ.set i (some (.p (.lst (OT.toDs xs)))))
  | some (some _) => .ok (.slot i) ρ
  | _ => .err := of_rfl rfl
@[simp] theorem view_d : view ρ (.d d) = d := of_rfl rfl
@[simp] theorem view_own : view ρ (.own sv) = sv.toD := of_rfl rfl
@[simp] theorem view_slot : view ρ (.slot i) = match ρ[i]? with
    | some (some sv) => sv.toD
    | _ => .non := of_rfl rfl
@[simp] theorem toD_p : (SV.p d).toD = d := of_rfl rfl
@[simp] theorem toD_l {xs : List D} : (SV.l xs).toD = .lst xs := of_rfl rfl
@[simp] theorem toD_i {C : Addr} {fs : List (Str × D)} : (SV.i C fs).toD = .ins C fs := of_rfl rfl
@[simp] theorem frz_d : frz (.d d) ρ = ρ := of_rfl rfl
@[simp] theorem frz_ow : frz (.own sv) ρ = ρ := of_rfl rfl
@[simp] theorem frz_slot : frz (.slot i) ρ = match ρ[i]? with
  | some (some sv) => ρ.set i (some (.p sv.toD))
  | _ => ρ := of_rfl (by unfold frz; rfl)
@[simp] theorem frzs_nil : frzs [] ρ = ρ := of_rfl rfl
@[simp] theorem frzs_cons {r : RV} {rs : List RV} : frzs (r :: rs) ρ = frzs rs (frz r ρ) := of_rfl rfl
@[simp] theorem bindR_d : bindR i (.d d) ρ = ρ.set i (some (.p d)) := of_rfl rfl
@[simp] theorem bindR_own : bindR i (.own sv) ρ = ρ.set i (some sv) := of_rfl rfl
@[simp] theorem bindR_slot : bindR i (.slot j) ρ = (frz (.slot j) ρ).set i (some (.p (view ρ (.slot j)))) := of_rfl rfl
@[simp] theorem eBin_ev : eBin o a b ρ = (a ρ).bind fun x ρ1 => (b ρ1).bind fun y ρ2 => match o (view ρ2 x) (view ρ2 y) with
  | some d => .ok (.d d) ρ2
  | none => .err := of_rfl rfl
@[simp] theorem tBin_ev : tBin o a b ρ = (a ρ).bind fun x ρ1 => (b ρ1).bind fun y ρ2 => match o (view ρ2 x) (view ρ2 y) with
  | some (.bl k) => .ok k ρ2
  | _ => .err := of_rfl rfl
@[simp] theorem eNil_ev : eNil ρ = .ok [] ρ := of_rfl rfl
@[simp] theorem eCons_ev : eCons a as ρ = (a ρ).bind fun r ρ1 => (as ρ1).bind fun rs ρ2 => .ok (r :: rs) ρ2 := of_rfl rfl
@[simp] theorem eTup_ev : eTup as ρ = (as ρ).bind fun rs ρ1 => if rs.length ≤ 100000 then .ok (.d (.tup (rs.map (view ρ1)))) (frzs rs ρ1) else .err := of_rfl rfl
@[simp] theorem eLst_ev : eLst as ρ = (as ρ).bind fun rs ρ1 => if rs.length ≤ 100000 then .ok (.own (.l (rs.map (view ρ1)))) (frzs rs ρ1) else .err := of_rfl rfl
@[simp] theorem eB_ev {F : Rho → List RV → Rs RV} : eB F as ρ = (as ρ).bind fun rs ρ1 => F ρ1 rs := of_rfl rfl
@[simp] theorem bFlat_ev {F : List D → Option D} {rs : List RV} : bFlat F ρ rs = match F (rs.map (view ρ)) with
  | some d => .ok (.d d) ρ
  | none => .err := of_rfl rfl
@[simp] theorem eCall_ev {fn : List D → Ret} {dds : List D} : eCall fn as dds ρ = (as ρ).bind fun rs ρ1 => ofRet (fn (rs.map (view ρ1) ++ dds)) rs ρ1 := of_rfl rfl
@[simp] theorem ofRet_ok {rs : List RV} : ofRet (.ok sv) rs ρ = .ok (rvOf sv) (if sv.lf then ρ else frzs rs ρ) := of_rfl rfl
@[simp] theorem rvOf_p : rvOf (.p d) = .d d := of_rfl rfl
@[simp] theorem rvOf_l {xs : List D} : rvOf (.l xs) = .own (.l xs) := of_rfl rfl
@[simp] theorem rvOf_i {C : Addr} {fs : List (Str × D)} : rvOf (.i C fs) = .own (.i C fs) := of_rfl rfl
@[simp] theorem lf_p : (SV.p d).lf = d.lf := of_rfl rfl
@[simp] theorem lf_l {xs : List D} : (SV.l xs).lf = lfL xs := of_rfl rfl
@[simp] theorem lf_int {n : Int} : (D.int n).lf = true := of_rfl rfl
@[simp] theorem lf_bl {n : Bool} : (D.bl n).lf = true := of_rfl rfl
@[simp] theorem lf_str {n : Str} : (D.str n).lf = true := of_rfl rfl
@[simp] theorem lf_non : D.non.lf = true := of_rfl rfl
@[simp] theorem lf_tup {xs : List D} : (D.tup xs).lf = lfL xs := of_rfl rfl
@[simp] theorem lfL_nil : lfL [] = true := of_rfl rfl
@[simp] theorem lfL_cons {xs : List D} : lfL (d :: xs) = (d.lf && lfL xs) := of_rfl rfl
@[simp] theorem lfL_ints : ∀ {ns : List Int}, lfL (ns.map D.int) = true
  | [] => rfl
  | n :: ns => by rw [List.map_cons, lfL_cons, lfL_ints]; rfl
@[simp] theorem eAndV_ev : eAndV a b ρ = (a ρ).bind fun x ρ1 => match view ρ1 x with
  | .bl true => b ρ1
  | .bl false => .ok (.d (.bl false)) ρ1
  | _ => .err := of_rfl rfl
@[simp] theorem eOrV_ev : eOrV a b ρ = (a ρ).bind fun x ρ1 => match view ρ1 x with
  | .bl false => b ρ1
  | .bl true => .ok (.d (.bl true)) ρ1
  | _ => .err := of_rfl rfl
@[simp] theorem eNotV_ev : eNotV a ρ = (a ρ).bind fun x ρ1 => match view ρ1 x with
  | .bl k => .ok (.d (.bl !k)) ρ1
  | _ => .err := of_rfl rfl
@[simp] theorem eIf_ev : eIf T a b ρ = (T ρ).bind fun k ρ1 => if k then a ρ1 else b ρ1 := of_rfl rfl
@[simp] theorem tTru_ev : tTru a ρ = (a ρ).bind fun x ρ1 => match (view ρ1 x).tru with
  | some k => .ok k ρ1
  | none => .err := of_rfl rfl
@[simp] theorem tAnd_ev : tAndF T U ρ = (T ρ).bind fun k ρ1 => if k then U ρ1 else .ok false ρ1 := of_rfl rfl
@[simp] theorem tOr_ev : tOrF T U ρ = (T ρ).bind fun k ρ1 => if k then .ok true ρ1 else U ρ1 := of_rfl rfl
@[simp] theorem tNot_ev : tNotF T ρ = (T ρ).bind fun k ρ1 => .ok (!k) ρ1 := of_rfl rfl
@[simp] theorem tYes_ev : tYesF ρ = .ok true ρ := of_rfl rfl
@[simp] theorem tChn_ev {o' : D → D → Option D} : tChn o o' a b c ρ = (a ρ).bind fun x ρ1 => (b ρ1).bind fun y ρ2 => match o (view ρ2 x) (view ρ2 y) with
  | some (.bl true) => (c ρ2).bind fun z ρ3 => match o' (view ρ3 y) (view ρ3 z) with
    | some (.bl k) => .ok k ρ3
    | _ => .err
  | some (.bl false) => .ok false ρ2
  | _ => .err := of_rfl rfl
@[simp] theorem eIsi_ev {N : String} : eIsi N a ρ = (a ρ).bind fun r ρ1 => match (view ρ1 r).tyN with
  | some t => .ok (.d (.bl (isTy t N))) ρ1
  | none => .err := of_rfl rfl
@[simp] theorem oSome_ev : oSome a ρ = (a ρ).bind fun r ρ1 => match view ρ1 r with
  | .int i => .ok (some i) ρ1
  | _ => .err := of_rfl rfl
@[simp] theorem oNone_ev : oNone ρ = .ok none ρ := of_rfl rfl
@[simp] theorem eSl_ev {lo hi : Rho → Rs (Option Int)} : eSl f lo hi ρ = (f ρ).bind fun r ρ1 => (lo ρ1).bind fun l ρ2 => (hi ρ2).bind fun u ρ3 => match view ρ3 r with
  | .str s => if s.length ≤ 100000 then .ok (.d (.str (cutS s l u))) ρ3 else .err
  | .lst xs => .ok (.own (.l (cutD xs l u))) ρ3
  | .frz xs => .ok (.own (.l (cutD xs l u))) ρ3
  | .tup xs => .ok (.d (.tup (cutD xs l u))) (frz r ρ3)
  | _ => .err := of_rfl rfl
/-! ### statements -/
@[simp] theorem sNil_ev : sNil ρ = .nx ρ := of_rfl rfl
@[simp] theorem sSeq_ev : sSeq s t ρ = (s ρ).bind t := of_rfl rfl
@[simp] theorem sSet_ev : sSet i a ρ = (a ρ).thn fun r ρ1 => .nx (bindR i r ρ1) := of_rfl rfl
@[simp] theorem sRet_ev : sRet a ρ = (a ρ).thn fun r ρ1 => .rt r ρ1 := of_rfl rfl
@[simp] theorem sRetN_ev : sRetN ρ = .rt (.d .non) ρ := of_rfl rfl
@[simp] theorem sDrop_ev : sDrop a ρ = (a ρ).thn fun _ ρ1 => .nx ρ1 := of_rfl rfl
@[simp] theorem sBrk_ev : sBrk ρ = .bk ρ := of_rfl rfl
@[simp] theorem sCnt_ev : sCnt ρ = .ct ρ := of_rfl rfl
@[simp] theorem sIf_ev : sIf T s t ρ = (T ρ).thn fun k ρ1 => if k then s ρ1 else t ρ1 := of_rfl rfl
@[simp] theorem sFor_ev {src : Rho → Rs (List D)} {G : D → Rho → Option Rho} : sFor src G s ρ = (src ρ).thn fun ds ρ1 => forL G s ds ρ1 := of_rfl rfl
@[simp] theorem gN_ev : gN i d ρ = some (ρ.set i (some (.p d))) := of_rfl rfl
@[simp] theorem gT_ev {n : Nat} {gs : List D → Rho → Option Rho} {xs : List D} : gT n gs (.tup xs) ρ = if xs.length = n then gs xs ρ else none := by
  unfold gT; rfl
@[simp] theorem gsNil_ev : gsNil [] ρ = some ρ := of_rfl rfl
@[simp] theorem gsCons_ev {G : D → Rho → Option Rho} {gs : List D → Rho → Option Rho} {ds : List D} : gsCons G gs (d :: ds) ρ = (G d ρ).bind (gs ds) := by
  rfl
@[simp] theorem sAsg_ev {G : D → Rho → Option Rho} : sAsg G a ρ = (a ρ).thn fun r ρ1 => match G (view ρ1 r) (frz r ρ1) with
  | some ρ2 => .nx ρ2
  | none => .err := of_rfl (by unfold sAsg; rfl)
@[simp] theorem sAug_ev : sAug i o a ρ = match ρ[i]? with
  | some (some (.p d)) => (a ρ).thn fun r ρ1 => match o d (view ρ1 r) with
    | some d' => .nx (ρ1.set i (some (.p d')))
    | none => .err
  | _ => .err := of_rfl rfl
@[simp] theorem sApp_ev : sApp i a ρ = match ρ[i]? with
  | some (some (.l _)) => (a ρ).thn fun r ρ1 => match (frz r ρ1)[i]? with
    | some (some (.l xs)) => if xs.length < 100000 then .nx ((frz r ρ1).set i (some (.l (xs ++ [view ρ1 r])))) else .err
    | _ => .err
  | _ => .err := of_rfl rfl
/-! ### operators -/
variable {m n : Int}
@[simp] theorem oSub_ev : oSub (.int m) (.int n) = some (.int (m - n)) := of_rfl rfl
@[simp] theorem oLt_ev : oLt (.int m) (.int n) = some (.bl (decide (m < n))) := of_rfl rfl
@[simp] theorem oLe_ev : oLe (.int m) (.int n) = some (.bl (decide (m ≤ n))) := of_rfl rfl
@[simp] theorem oGt_ev : oGt (.int m) (.int n) = some (.bl (decide (n < m))) := of_rfl rfl
@[simp] theorem oGe_ev : oGe (.int m) (.int n) = some (.bl (decide (n ≤ m))) := of_rfl rfl
@[simp] theorem iAdd_ev : iAdd (.int m) (.int n) = some (.int (m + n)) := of_rfl rfl
@[simp] theorem oMod_ev (h : 0 < n) : oMod (.int m) (.int n) = some (.int (m % n)) := if_pos h
@[simp] theorem oDiv_ev (h : 0 < n) (h' : n < 1000000000000000000000000000000) : oDiv (.int m) (.int n) = some (.int (m / n)) := if_pos ⟨h, Nat.lt_of_lt_of_le (by omega : n.natAbs < 1000000000000000000000000000000) (by decide)⟩
theorem oMul_ev (h1 : -1000000000000000000000000000000000000000000000000000000000000000000000000000 < m) (h2 : m < 1000000000000000000000000000000000000000000000000000000000000000000000000000) (h3 : -1000000000000000000000000000000000000000000000000000000000000000000000000000 < n) (h4 : n < 1000000000000000000000000000000000000000000000000000000000000000000000000000) : oMul (.int m) (.int n) = some (.int (m * n)) :=
  if_pos ⟨Nat.lt_of_lt_of_le (by omega : m.natAbs < 1000000000000000000000000000000000000000000000000000000000000000000000000000) (by decide), Nat.lt_of_lt_of_le (by omega : n.natAbs < 1000000000000000000000000000000000000000000000000000000000000000000000000000) (by decide)⟩
@[simp] theorem oIsN_ev : oIsN d .non = some (.bl d.isN) := by unfold oIsN; cases d <;> rfl
@[simp] theorem oNotN_ev : oNotN d .non = some (.bl !d.isN) := by unfold oNotN; cases d <;> rfl
@[simp] theorem isN_int : (D.int m).isN = false := of_rfl rfl
@[simp] theorem isN_non : D.non.isN = true := of_rfl rfl
@[simp] theorem isN_lst {xs : List D} : (D.lst xs).isN = false := of_rfl rfl
@[simp] theorem isN_tup {xs : List D} : (D.tup xs).isN = false := of_rfl rfl
@[simp] theorem isN_str {x : Str} : (D.str x).isN = false := of_rfl rfl
def mulR (x y : D) (ρ : Rho) : Rs RV := match x, y with
  | .lst xs, .int k => if k ≤ 100000 ∧ xs.length * k.toNat ≤ 100000 ∧ 0 ≤ k then .ok (.own (.l (List.replicate k.toNat xs).flatten)) ρ else .err
  | u, v => match oMul u v with
    | some d => .ok (.d d) ρ
    | none => .err
def addR (x y : D) (ρ : Rho) : Rs RV := match x, y with
  | .lst xs, .lst ys => if xs.length + ys.length ≤ 100000 then .ok (.own (.l (xs ++ ys))) ρ else .err
  | .tup xs, .tup ys => if xs.length + ys.length ≤ 100000 ∧ xs ≠ [] ∧ ys ≠ [] then .ok (.d (.tup (xs ++ ys))) ρ else .err
  | u, v => match oAdd u v with
    | some d => .ok (.d d) ρ
    | none => .err
@[simp] theorem eMul_ev : eMul a b ρ = (a ρ).bind fun x ρ1 => (b ρ1).bind fun y ρ2 => mulR (view ρ2 x) (view ρ2 y) ρ2 := of_rfl rfl
@[simp] theorem eAdd_ev : eAdd a b ρ = (a ρ).bind fun x ρ1 => (b ρ1).bind fun y ρ2 => addR (view ρ2 x) (view ρ2 y) ρ2 := of_rfl rfl
@[simp] theorem addR_int : addR (.int m) (.int n) ρ = .ok (.d (.int (m + n))) ρ := of_rfl rfl
@[simp] theorem addR_str {x y : Str} (h : x.length + y.length ≤ 100000) : addR (.str x) (.str y) ρ = .ok (.d (.str (x ++ y))) ρ := by
  unfold addR oAdd; simp [h]
@[simp] theorem addR_lst {xs ys : List D} (h : xs.length + ys.length ≤ 100000) : addR (.lst xs) (.lst ys) ρ = .ok (.own (.l (xs ++ ys))) ρ := if_pos h
@[simp] theorem mulR_int (h1 : -1000000000000000000000000000000000000000000000000000000000000000000000000000 < m) (h2 : m < 1000000000000000000000000000000000000000000000000000000000000000000000000000) (h3 : -1000000000000000000000000000000000000000000000000000000000000000000000000000 < n) (h4 : n < 1000000000000000000000000000000000000000000000000000000000000000000000000000) : mulR (.int m) (.int n) ρ = .ok (.d (.int (m * n))) ρ := by
  show (match oMul (.int m) (.int n) with
    | some d => Rs.ok (RV.d d) ρ
    | none => .err) = _
  rw [oMul_ev h1 h2 h3 h4]

/-! ### builtins -/
@[simp] theorem fAbs_ev : fAbs [.int m] = some (.int (if m < 0 then -m else m)) := of_rfl rfl
@[simp] theorem fMax2_ev : fMax2 [.int m, .int n] = some (.int (if n > m then n else m)) := of_rfl rfl
@[simp] theorem fMin2_ev : fMin2 [.int m, .int n] = some (.int (if n < m then n else m)) := of_rfl rfl
@[simp] theorem fLen_lst {xs : List D} : fLen [.lst xs] = some (.int (xs.length : Nat)) := of_rfl rfl
@[simp] theorem fLen_frz {xs : List D} : fLen [.frz xs] = some (.int (xs.length : Nat)) := of_rfl rfl
@[simp] theorem fLen_tup {xs : List D} : fLen [.tup xs] = some (.int (xs.length : Nat)) := of_rfl rfl
@[simp] theorem intsD_ints : ∀ {ns : List Int}, intsD (ns.map D.int) = some ns
  | [] => rfl
  | n :: ns => by rw [List.map_cons]; show (intsD (ns.map D.int)).map (n :: ·) = _; rw [intsD_ints]; rfl
@[simp] theorem fSum_ints {ns : List Int} : fSum [.lst (ns.map D.int)] = some (.int ns.sum) := by
  show ((some (ns.map D.int)).bind intsD).bind _ = _
  rw [Option.bind_some, intsD_ints]; rfl
@[simp] theorem fSum_intsF {ns : List Int} : fSum [.frz (ns.map D.int)] = some (.int ns.sum) := by
  show ((some (ns.map D.int)).bind intsD).bind _ = _
  rw [Option.bind_some, intsD_ints]; rfl
@[simp] theorem fSum_take {ns : List Int} {k : Nat} : fSum [.lst ((ns.map D.int).take k)] = some (.int (ns.take k).sum) := by
  rw [← List.map_take]; exact fSum_ints
@[simp] theorem lfL_take {ns : List Int} {k : Nat} : lfL ((ns.map D.int).take k) = true := by
  rw [← List.map_take]; exact lfL_ints
@[simp] theorem bList_lst {r : RV} : bList ρ [r] = match (view ρ r).items with
    | some xs => .ok (.own (.l xs)) ρ
    | none => .err := of_rfl rfl
@[simp] theorem items_lst {xs : List D} : (D.lst xs).items = some xs := of_rfl rfl
@[simp] theorem items_frz {xs : List D} : (D.frz xs).items = some xs := of_rfl rfl
@[simp] theorem items_tup {xs : List D} : (D.tup xs).items = some xs := of_rfl rfl
def dmR (i j : Int) (ρ : Rho) : Rs RV := if 0 < j ∧ j.natAbs < BIG then .ok (.d (.tup [.int (i / j), .int (i % j)])) ρ else .err
@[simp] theorem bDivmod_ev {rs : List RV} : bDivmod ρ rs = match rs.map (view ρ) with
  | [.int i, .int j] => dmR i j ρ
  | _ => .err := of_rfl rfl
@[simp] theorem dmR_ev (h : 0 < n) (h' : n < 1000000000000000000000000000000) : dmR m n ρ = .ok (.d (.tup [.int (m / n), .int (m % n)])) ρ := if_pos ⟨h, Nat.lt_of_lt_of_le (by omega : n.natAbs < 1000000000000000000000000000000) (by decide)⟩
@[simp] theorem tyN_int : (D.int m).tyN = some "int" := of_rfl rfl
@[simp] theorem tyN_bl {k : Bool} : (D.bl k).tyN = some "bool" := of_rfl rfl
@[simp] theorem tyN_non : D.non.tyN = some "NoneType" := of_rfl rfl
@[simp] theorem isTy_ii : isTy "int" "int" = true := by decide +kernel
@[simp] theorem isTy_ib : isTy "int" "bool" = false := by decide +kernel
@[simp] theorem isTy_ni : isTy "NoneType" "int" = false := by decide +kernel
@[simp] theorem isTy_bb : isTy "bool" "bool" = true := by decide +kernel
@[simp] theorem tru_bl {k : Bool} : (D.bl k).tru = some k := of_rfl rfl
@[simp] theorem tru_int : (D.int m).tru = some (m != 0) := of_rfl rfl
@[simp] theorem tru_lst {xs : List D} : (D.lst xs).tru = some !xs.isEmpty := of_rfl rfl
def ixR (d : D) (i : Int) (ρ : Rho) : Rs RV := match d with
    | .str z => if z.length ≤ 100000 then match atI z.cps.toList i with
        | some c => .ok (.d (.str ⟨#[c]⟩)) ρ
        | none => .err
      else .err
    | u => match u.items with
      | some xs => match atI xs i with
        | some d => .ok (.d d) ρ
        | none => .err
      | none => .err
@[simp] theorem eIx_ev : eIx a b ρ = (a ρ).bind fun x ρ1 => (b ρ1).bind fun y ρ2 => match view ρ2 y with
  | .int i => ixR (view ρ2 x) i ρ2
  | _ => .err := of_rfl rfl
theorem atI_get {α : Type} {xs : List α} {i : Int} (h : 0 ≤ i) (h' : i.toNat < xs.length) : atI xs i = some xs[i.toNat] := by
  unfold atI ixN
  rw [if_pos h, if_pos (by omega)]
  simp [h']
theorem ixR_lst {α : Type} {el : α → D} {xs : List α} {i : Int} (h : 0 ≤ i) (h' : i.toNat < xs.length) : ixR (.lst (xs.map el)) i ρ = .ok (.d (el xs[i.toNat])) ρ := by
  unfold ixR
  have e := atI_get (xs := xs.map el) h (by simpa using h')
  simp [e]
theorem ixR_frz {α : Type} {el : α → D} {xs : List α} {i : Int} (h : 0 ≤ i) (h' : i.toNat < xs.length) : ixR (.frz (xs.map el)) i ρ = .ok (.d (el xs[i.toNat])) ρ := by
  unfold ixR
  have e := atI_get (xs := xs.map el) h (by simpa using h')
  simp [e]
theorem ixR_tup {α : Type} {el : α → D} {xs : List α} {i : Int} (h : 0 ≤ i) (h' : i.toNat < xs.length) : ixR (.tup (xs.map el)) i ρ = .ok (.d (el xs[i.toNat])) ρ := by
  unfold ixR
  have e := atI_get (xs := xs.map el) h (by simpa using h')
  simp [e]
/-- an item of a list of ints; what lies outside is 0 -/
def at0 (ns : List Int) (i : Int) : Int := ns.getD i.toNat 0
@[simp] theorem ixR_ints {ns : List Int} {i : Int} (h : 0 ≤ i) (h' : i < ns.length) : ixR (.lst (ns.map .int)) i ρ = .ok (.d (.int (at0 ns i))) ρ := by
  have hl : i.toNat < ns.length := by omega
  rw [ixR_lst h hl, at0, List.getD_eq_getElem?_getD, List.getElem?_eq_getElem hl]; rfl
@[simp] theorem ixR_intsF {ns : List Int} {i : Int} (h : 0 ≤ i) (h' : i < ns.length) : ixR (.frz (ns.map .int)) i ρ = .ok (.d (.int (at0 ns i))) ρ := by
  have hl : i.toNat < ns.length := by omega
  rw [ixR_frz h hl, at0, List.getD_eq_getElem?_getD, List.getElem?_eq_getElem hl]; rfl
theorem at0_mem {ns : List Int} {i : Int} (h : 0 ≤ i) (h' : i < ns.length) : at0 ns i ∈ ns := by
  have hl : i.toNat < ns.length := by omega
  rw [at0, List.getD_eq_getElem?_getD, List.getElem?_eq_getElem hl]
  exact List.getElem_mem hl
def rng1R (n : Int) (ρ : Rho) : Rs (List D) := if -LIM ≤ n ∧ n < LIM then .ok (rngD 0 n.toNat) ρ else .err
@[simp] theorem iRng1_ev : iRng1F f ρ = (f ρ).bind fun r ρ1 => match view ρ1 r with
  | .int n => rng1R n ρ1
  | _ => .err := of_rfl rfl
@[simp] theorem rng1R_ev (h : -1152921504606846976 ≤ n) (h' : n < 1152921504606846976) : rng1R n ρ = .ok (rngD 0 n.toNat) ρ := by
  unfold rng1R LIM
  rw [if_pos (by omega)]
def rng2R (m n : Int) (ρ : Rho) : Rs (List D) := if (-LIM ≤ m ∧ m < LIM) ∧ -LIM ≤ n ∧ n < LIM then .ok (rngD m (n - m).toNat) ρ else .err
@[simp] theorem iRng2_ev : iRng2F f g ρ = (f ρ).bind fun r ρ1 => (g ρ1).bind fun q ρ2 => match view ρ2 r, view ρ2 q with
  | .int m, .int n => rng2R m n ρ2
  | _, _ => .err := of_rfl rfl
@[simp] theorem rng2R_ev (h1 : -1152921504606846976 ≤ m) (h2 : m < 1152921504606846976) (h : -1152921504606846976 ≤ n) (h' : n < 1152921504606846976) : rng2R m n ρ = .ok (rngD m (n - m).toNat) ρ := by
  unfold rng2R LIM
  rw [if_pos (by omega)]
@[simp] theorem iSeq_ev : iSeq f ρ = (f ρ).bind fun r ρ1 => match (view ρ1 r).items with
  | some ds => .ok ds (frz r ρ1)
  | none => .err := of_rfl rfl
end
/-! ## Ends of a body -/
/-- what a body's end must be -/
def Endg (Q : Out → Prop) (o : Out) : Prop := Q o
theorem forL_wp {g : D → Rho → Option Rho} {body : Rho → Out} {Q : Out → Prop} : ∀ {ds : List D} {ρ : Rho} (I : Nat → Rho → Prop) (_ : I 0 ρ)
    (_ : ∀ i d ρ, ds[i]? = some d → I i ρ → ∃ ρ1, g d ρ = some ρ1 ∧ Endg (fun o => match o with
      | .nx ρ2 => I (i + 1) ρ2
      | .ct ρ2 => I (i + 1) ρ2
      | .bk ρ2 => Q (.nx ρ2)
      | .err => False
      | .rt r ρ2 => Q (.rt r ρ2)
      | .exc x ρ2 => Q (.exc x ρ2)) (body ρ1)) (_ : ∀ ρ, I ds.length ρ → Q (.nx ρ)), Endg Q (forL g body ds ρ)
  | [], ρ, I, h0, _, hd => hd ρ h0
  | d :: ds, ρ, I, h0, hs, hd => by
    obtain ⟨ρ1, e1, e2⟩ := hs 0 d ρ rfl h0
    unfold forL
    rw [e1]
    dsimp only
    cases eb : body ρ1 with
    | err => rw [eb] at e2; exact e2.elim
    | nx ρ2 => rw [eb] at e2; exact forL_wp (fun i => I (i + 1)) e2 (fun i d' ρ' h => hs (i + 1) d' ρ' (by simpa using h)) hd
    | ct ρ2 => rw [eb] at e2; exact forL_wp (fun i => I (i + 1)) e2 (fun i d' ρ' h => hs (i + 1) d' ρ' (by simpa using h)) hd
    | bk ρ2 => rw [eb] at e2; exact e2
    | rt r ρ2 => rw [eb] at e2; exact e2
    | exc x ρ2 => rw [eb] at e2; exact e2
@[simp] theorem forL_nil {g : D → Rho → Option Rho} {body : Rho → Out} {ρ : Rho} : forL g body [] ρ = .nx ρ := of_rfl rfl
theorem forL_cons {g : D → Rho → Option Rho} {body : Rho → Out} {ρ : Rho} {d : D} {ds : List D} : forL g body (d :: ds) ρ = match g d ρ with
    | none => .err
    | some ρ1 => match body ρ1 with
      | .nx ρ2 => forL g body ds ρ2
      | .ct ρ2 => forL g body ds ρ2
      | .bk ρ2 => .nx ρ2
      | .rt r ρ2 => .rt r ρ2
      | .exc x ρ2 => .exc x ρ2
      | .err => .err := of_rfl rfl
theorem whileL_wp {t : Rho → Rs Bool} {body : Rho → Out} {Q : Out → Prop} : ∀ {n : Nat} {ρ : Rho} (I : Nat → Rho → Prop) (m : Nat) (_ : m < n) (_ : I m ρ)
    (_ : ∀ i ρ, I i ρ → (∃ ρ1, t ρ = .ok false ρ1 ∧ Q (.nx ρ1)) ∨ ∃ ρ1 j, t ρ = .ok true ρ1 ∧ i = j + 1 ∧ Endg (fun o => match o with
      | .nx ρ2 => I j ρ2
      | .ct ρ2 => I j ρ2
      | .bk ρ2 => Q (.nx ρ2)
      | .err => False
      | .rt r ρ2 => Q (.rt r ρ2)
      | .exc x ρ2 => Q (.exc x ρ2)) (body ρ1)), Endg Q (whileL t body n ρ)
  | 0, _, _, _, h, _, _ => absurd h (Nat.not_lt_zero _)
  | n + 1, ρ, I, m, hm, h0, hs => by
    unfold whileL
    rcases hs m ρ h0 with ⟨ρ1, e1, e2⟩ | ⟨ρ1, j, e1, rfl, e2⟩
    · rw [e1]; exact e2
    · rw [e1]
      dsimp only
      cases eb : body ρ1 with
      | err => rw [eb] at e2; exact e2.elim
      | nx ρ2 => rw [eb] at e2; exact whileL_wp I j (by omega) e2 hs
      | ct ρ2 => rw [eb] at e2; exact whileL_wp I j (by omega) e2 hs
      | bk ρ2 => rw [eb] at e2; exact e2
      | rt r ρ2 => rw [eb] at e2; exact e2
      | exc x ρ2 => rw [eb] at e2; exact e2
/-- a loop and what stands behind it -/
theorem endg_bind {Q : Out → Prop} {o : Out} {f : Rho → Out} (h : Endg (fun o => match o with
      | .nx ρ => Endg Q (f ρ)
      | .err => False
      | o => Q o) o) : Endg Q (o.bind f) := by
  cases o with
  | err => exact h.elim
  | nx ρ => exact h
  | rt r ρ => exact h
  | bk ρ => exact h
  | ct ρ => exact h
  | exc x ρ => exact h
theorem run0_wp {n k : Nat} {G : Rho → Out} {ds : List D} {P : SV → Prop} (hl : ds.length = k) (h : Endg (fun o => match o with
    | .nx _ => P (.p .non)
    | .rt r ρ => P (svOf ρ r)
    | _ => False) (G (startR n ds))) : ∃ sv, run0 n k G ds = .ok sv ∧ P sv := by
  unfold run0
  rw [if_pos hl]
  cases e : G (startR n ds) with
  | err => rw [e] at h; exact h.elim
  | nx ρ => rw [e] at h; exact ⟨_, rfl, h⟩
  | rt r ρ => rw [e] at h; exact ⟨_, rfl, h⟩
  | bk ρ => rw [e] at h; exact h.elim
  | ct ρ => rw [e] at h; exact h.elim
  | exc x ρ => rw [e] at h; exact h.elim
/-- the same with the wish hidden from the start (whnf of an open wish would run the body) -/
theorem run0_wpQ {n k : Nat} {G : Rho → Out} {ds : List D} {P : SV → Prop} (hl : ds.length = k) (h : ∀ Q : Out → Prop, Q = (fun o => match o with
    | .nx _ => P (.p .non)
    | .rt r ρ => P (svOf ρ r)
    | _ => False) → Endg Q (G (startR n ds))) : ∃ sv, run0 n k G ds = .ok sv ∧ P sv := run0_wp hl (h _ rfl)
theorem endg_ite {Q : Out → Prop} {c : Prop} [Decidable c] {x y : Out} (h1 : c → Endg Q x) (h2 : ¬ c → Endg Q y) : Endg Q (if c then x else y) := by
  split
  · exact h1 (by assumption)
  · exact h2 (by assumption)
theorem endg_hide {Q : Out → Prop} {o : Out} (h : ∀ Q', Q' = Q → Endg Q' o) : Endg Q o := h Q rfl
theorem endg_ret {Q : Out → Prop} {r : RV} {ρ : Rho} (h : Q (.rt r ρ)) : Endg Q (.rt r ρ) := h
theorem endg_nx {Q : Out → Prop} {ρ : Rho} (h : Q (.nx ρ)) : Endg Q (.nx ρ) := h
@[simp] theorem svOf_d {ρ : Rho} {d : D} : svOf ρ (.d d) = .p d := of_rfl rfl
@[simp] theorem svOf_o {ρ : Rho} {sv : SV} : svOf ρ (.own sv) = sv := of_rfl rfl
@[simp] theorem svOf_s {ρ : Rho} {i : Nat} : svOf ρ (.slot i) = match ρ[i]? with
    | some (some sv) => sv
    | _ => .p .non := of_rfl rfl
/-- a comprehension over known items: every item gives one element -/
theorem lcL_all {g : D → Rho → Option Rho} {tt : Rho → Rs Bool} {elt : Rho → Rs RV} {vs : List Nat} {ρ : Rho} {α : Type} {el : α → D} {P : Nat → α → Prop} : ∀ {ds : List D} {k : Nat} {acc : List α}, acc.length = k → k + ds.length ≤ 100000 →
    (∀ i d, ds[i]? = some d → ∃ ρ1 ρ2 ρ3 r y, g d ρ = some ρ1 ∧ tt ρ1 = .ok true ρ2 ∧ elt ρ2 = .ok r ρ3 ∧ wipeR (frz r ρ3) vs = ρ ∧ view ρ3 r = el y ∧ P (k + i) y) → (∀ i y, acc[i]? = some y → P i y) →
    ∃ ys : List α, lcL g tt elt vs ds ρ (acc.map el) = some (ys.map el, ρ) ∧ ys.length = k + ds.length ∧ ∀ i y, ys[i]? = some y → P i y
  | [], k, acc, hk, _, _, hp => ⟨acc, rfl, by simpa using hk, hp⟩
  | d :: ds, k, acc, hk, hl, hs, hp => by
    obtain ⟨ρ1, ρ2, ρ3, r, y, e1, e2, e3, e4, e5, e6⟩ := hs 0 d rfl
    unfold lcL
    rw [e1]
    dsimp only
    rw [e2]
    dsimp only
    rw [e3]
    dsimp only
    rw [if_pos (by simp only [List.length_map, List.length_cons] at hl ⊢; omega), e4, e5]
    have := lcL_all (k := k + 1) (acc := acc ++ [y]) (ds := ds) (by simp [hk]) (by simp only [List.length_cons] at hl; omega) (fun i d' h => by
      obtain ⟨ρ1, ρ2, ρ3, r, y', q1, q2, q3, q4, q5, q6⟩ := hs (i + 1) d' (by simpa using h)
      exact ⟨ρ1, ρ2, ρ3, r, y', q1, q2, q3, q4, q5, by rw [show k + 1 + i = k + (i + 1) by omega]; exact q6⟩) (fun i y' h => by
        by_cases hi : i < acc.length
        · rw [List.getElem?_append_left hi] at h; exact hp i y' h
        · rw [List.getElem?_append_right (by omega)] at h
          have hi0 : i - acc.length = 0 := by
            have := (List.getElem?_eq_some_iff.mp h).1
            simp at this; omega
          rw [hi0] at h
          simp at h; subst h
          rw [show i = k + 0 by omega]; exact e6)
    obtain ⟨ys, q1, q2, q3⟩ := this
    rw [List.map_append] at q1
    exact ⟨ys, q1, by rw [q2, List.length_cons]; omega, q3⟩
/-! ### equality of data -/
theorem eqv_int {m n : Int} : D.eqv (.int m) (.int n) = some (decide (m = n)) := by
  unfold D.eqv
  simp [D.flat, scal]
@[simp] theorem oEq_int {m n : Int} : oEq (.int m) (.int n) = some (.bl (decide (m = n))) := by
  unfold oEq; rw [eqv_int]; rfl
@[simp] theorem oNe_int {m n : Int} : oNe (.int m) (.int n) = some (.bl !(decide (m = n))) := by
  unfold oNe; rw [eqv_int]; rfl
/-- data that == reaches, at most k deep -/
def dokN (k : Nat) (d : D) : Prop := pyOk d = true ∧ (toPy d).canLay0 = true ∧ (toPy d).depth ≤ k
theorem dokN.dok {k : Nat} {d : D} (h : dokN k d) (hk : k ≤ 64) : FP.dok d = true := by
  unfold FP.dok SeqAt.shaped
  simp [h.1, h.2.1, Nat.le_trans h.2.2 hk]
theorem eqv_same {d : D} (h : FP.dok d = true) : D.eqv d d = some true := by
  have h' := dok_and h
  have := SeqAt.eqv_refl (toPy d) (SeqAt.canLay_of_shaped h'.2)
  unfold D.eqv
  split
  · rename_i v w h1 h2
    rw [h1] at h2; cases h2
    split
    · simp
    · simp [h, this]
  · simp [h, this]
theorem oEq_same {d d' : D} (e : d = d') (h : FP.dok d = true) : oEq d d' = some (.bl true) := by
  subst e; unfold oEq; rw [eqv_same h]; rfl
theorem oNe_same {d d' : D} (e : d = d') (h : FP.dok d = true) : oNe d d' = some (.bl false) := by
  subst e; unfold oNe; rw [eqv_same h]; rfl
theorem dokN_int {k : Nat} {n : Int} : dokN k (.int n) := ⟨rfl, rfl, Nat.zero_le _⟩
theorem dokN_bl {k : Nat} {n : Bool} : dokN k (.bl n) := ⟨rfl, rfl, Nat.zero_le _⟩
theorem dokN_non {k : Nat} : dokN k .non := ⟨rfl, rfl, Nat.zero_le _⟩
theorem dokN_all {k : Nat} : ∀ {xs : List D}, (∀ d, d ∈ xs → dokN k d) → pyOkL xs = true ∧ PyData.canLayAll0 (toPyL xs) = true ∧ PyData.depthAll (toPyL xs) ≤ k
  | [], _ => ⟨rfl, rfl, Nat.zero_le _⟩
  | d :: xs, h => by
    obtain ⟨h1, h2, h3⟩ := dokN_all fun d hd => h d (List.mem_cons_of_mem _ hd)
    obtain ⟨g1, g2, g3⟩ := h d List.mem_cons_self
    refine ⟨?_, ?_, ?_⟩
    · show (pyOk d && pyOkL xs) = true; rw [g1, h1]; rfl
    · show (PyData.canLay0 (toPy d) && PyData.canLayAll0 (toPyL xs)) = true; rw [g2, h2]; rfl
    · show max (PyData.depth (toPy d)) (PyData.depthAll (toPyL xs)) ≤ k; exact Nat.max_le.mpr ⟨g3, h3⟩
theorem dokN_lst {k : Nat} {xs : List D} (h : ∀ d, d ∈ xs → dokN k d) : dokN (k + 1) (.lst xs) := by
  obtain ⟨h1, h2, h3⟩ := dokN_all h
  exact ⟨h1, h2, Nat.succ_le_succ h3⟩
theorem dokN_tup {k : Nat} {xs : List D} (h : ∀ d, d ∈ xs → dokN k d) : dokN (k + 1) (.tup xs) := by
  obtain ⟨h1, h2, h3⟩ := dokN_all h
  exact ⟨h1, h2, Nat.succ_le_succ h3⟩
theorem dok_ints {ns : List Int} : FP.dok (.lst (ns.map .int)) = true := (dokN_lst (k := 0) fun d h => by
  obtain ⟨n, _, rfl⟩ := List.mem_map.mp h
  exact dokN_int).dok (by decide)
/-! ## Lists of known items -/
@[simp] theorem cut_to {α : Type} {el : α → D} {xs : List α} {k : Int} (h : 0 ≤ k) : cutD (xs.map el) none (some k) = (xs.take k.toNat).map el := by
  unfold cutD
  rw [HT.sIx_none, List.drop_zero, Nat.sub_zero]
  have e : HT.sIx (xs.map el).length (xs.map el).length (some k) = min k.toNat xs.length := by
    have := HT.sIx_nat (xs.map el).length (xs.map el).length k.toNat
    rw [show ((k.toNat : Nat) : Int) = k by omega] at this
    rw [this, List.length_map]
  rw [e, ← List.map_take]
  congr 1
  by_cases hl : k.toNat ≤ xs.length
  · rw [Nat.min_eq_left hl]
  · rw [Nat.min_eq_right (by omega), List.take_length, List.take_of_length_le (by omega)]
@[simp] theorem cut_from {α : Type} {el : α → D} {xs : List α} {k : Int} (h : 0 ≤ k) : cutD (xs.map el) (some k) none = (xs.drop k.toNat).map el := by
  unfold cutD
  rw [HT.sIx_none]
  have e : HT.sIx (xs.map el).length 0 (some k) = min k.toNat xs.length := by
    have := HT.sIx_nat (xs.map el).length 0 k.toNat
    rw [show ((k.toNat : Nat) : Int) = k by omega] at this
    rw [this, List.length_map]
  rw [e, ← List.map_drop]
  by_cases hl : k.toNat ≤ xs.length
  · rw [Nat.min_eq_left hl, List.take_of_length_le (by simp)]
  · rw [Nat.min_eq_right (by omega), List.drop_length, List.drop_of_length_le (by omega)]
    simp
@[simp] theorem cut_all {α : Type} {el : α → D} {xs : List α} : cutD (xs.map el) none none = xs.map el := by
  unfold cutD
  rw [HT.sIx_none, HT.sIx_none, List.drop_zero, Nat.sub_zero, List.take_length]
theorem get_map {α : Type} {el : α → D} {xs : List α} {i : Nat} {d : D} (h : (xs.map el)[i]? = some d) : ∃ x, xs[i]? = some x ∧ d = el x := by
  rw [List.getElem?_map] at h
  obtain ⟨x, h1, h2⟩ := Option.map_eq_some_iff.mp h
  exact ⟨x, h1, h2.symm⟩
theorem take_snoc {α : Type} {xs : List α} {i : Nat} {x : α} (h : xs[i]? = some x) : xs.take (i + 1) = xs.take i ++ [x] := by
  rw [List.take_add_one, h]; rfl
/-- numbers as the script's cells give them -/
def Num (ns : List Int) : Prop := ∀ n, n ∈ ns → 0 ≤ n ∧ n ≤ 1008
theorem Num.snoc {ns : List Int} {n : Int} (h : Num ns) (h0 : 0 ≤ n) (h1 : n ≤ 1008) : Num (ns ++ [n]) := fun m hm => by
  rcases List.mem_append.mp hm with z | z
  · exact h m z
  · simp at z; subst z; exact ⟨h0, h1⟩
theorem Num.app {ns ms : List Int} (h : Num ns) (h' : Num ms) : Num (ns ++ ms) := fun m hm => by
  rcases List.mem_append.mp hm with z | z
  · exact h m z
  · exact h' m z
theorem Num.take {ns : List Int} (h : Num ns) (k : Nat) : Num (ns.take k) := fun m hm => h m (List.mem_of_mem_take hm)
theorem Num.at {ns : List Int} {k : Nat} (h : Num ns) (hl : ns.length = k) (i : Int) (h0 : 0 ≤ i) (h1 : i < k) : 0 ≤ at0 ns i ∧ at0 ns i ≤ 1008 := h _ (at0_mem h0 (by omega))
theorem snoc_map {α : Type} {el : α → D} {ns : List α} {n : α} : ns.map el ++ [el n] = (ns ++ [n]).map el := by simp
/-! ## A comprehension ahead of a rest -/
@[simp] theorem thn_bind {α : Type} {x : Rs α} {f : α → Rho → Out} {g : Rho → Out} : (x.thn f).bind g = x.thn fun a ρ => (f a ρ).bind g := by cases x <;> rfl
@[simp] theorem bind_thn {α β : Type} {x : Rs α} {f : α → Rho → Rs β} {g : β → Rho → Out} : (x.bind f).thn g = x.thn fun a ρ => (f a ρ).thn g := by cases x <;> rfl
@[simp] theorem bind_bind' {α β γ : Type} {x : Rs α} {f : α → Rho → Rs β} {g : β → Rho → Rs γ} : (x.bind f).bind g = x.bind fun a ρ => (f a ρ).bind g := by cases x <;> rfl
theorem lc_thn {α : Type} (el : α → D) (P : Nat → α → Prop) {Q : Out → Prop} {src : Rho → Rs (List D)} {g : D → Rho → Option Rho} {tt : Rho → Rs Bool} {elt : Rho → Rs RV} {vs : List Nat} {ρ ρ1 : Rho} {ds : List D} {f : RV → Rho → Out} (hs : src ρ = .ok ds ρ1) (hl : ds.length ≤ 100000)
    (hb : ∀ i d, ds[i]? = some d → ∃ ρa ρ2 ρ3 r y, g d (wipeR ρ1 vs) = some ρa ∧ tt ρa = .ok true ρ2 ∧ elt ρ2 = .ok r ρ3 ∧ wipeR (frz r ρ3) vs = wipeR ρ1 vs ∧ view ρ3 r = el y ∧ P i y)
    (h : ∀ ys : List α, ys.length = ds.length → (∀ i y, ys[i]? = some y → P i y) → Endg Q (f (.own (.l (ys.map el))) (unwipe ρ1 (wipeR ρ1 vs) vs))) : Endg Q ((eLc src g tt elt vs ρ).thn f) := by
  obtain ⟨ys, h1, h2, h3⟩ := lcL_all (g := g) (tt := tt) (elt := elt) (vs := vs) (ρ := wipeR ρ1 vs) (el := el) (P := P) (ds := ds) (k := 0) (acc := []) rfl (by omega) (fun i d hd => by
    obtain ⟨ρa, ρ2, ρ3, r, y, q1, q2, q3, q4, q5, q6⟩ := hb i d hd
    exact ⟨ρa, ρ2, ρ3, r, y, q1, q2, q3, q4, q5, by rw [Nat.zero_add]; exact q6⟩) (fun i y h => by simp at h)
  unfold eLc
  rw [hs]
  simp only [bind_ok]
  rw [List.map_nil] at h1
  rw [h1]
  exact h ys (by omega) h3
theorem mem_of_P {α : Type} {ys : List α} {P : α → Prop} (h : ∀ (i : Nat) y, ys[i]? = some y → P y) : ∀ y, y ∈ ys → P y := fun y hy => by
  obtain ⟨i, hi⟩ := List.mem_iff_getElem?.mp hy
  exact h i y hi
theorem eq_of_P {α : Type} {ys zs : List α} (hl : ys.length = zs.length) (h : ∀ (i : Nat) y z, ys[i]? = some y → zs[i]? = some z → y = z) : ys = zs := by
  apply List.ext_getElem? fun i => ?_
  by_cases hi : i < ys.length
  · have hz : i < zs.length := by omega
    rw [List.getElem?_eq_getElem hi, List.getElem?_eq_getElem hz]
    rw [h i _ _ (List.getElem?_eq_getElem hi) (List.getElem?_eq_getElem hz)]
  · rw [List.getElem?_eq_none (by omega), List.getElem?_eq_none (by omega)]
/-- a piece that ends plainly in a state with P, then the rest -/
theorem endg_cut {Q : Out → Prop} (P : Rho → Prop) {o : Out} {f : Rho → Out} (h : Endg (fun o => ∃ ρ, o = .nx ρ ∧ P ρ) o) (k : ∀ ρ, P ρ → Endg Q (f ρ)) : Endg Q (o.bind f) := by
  obtain ⟨ρ, rfl, hp⟩ := h
  exact k ρ hp
theorem endg_end {P : Rho → Prop} {ρ : Rho} (h : P ρ) : Endg (fun o => ∃ ρ, o = .nx ρ ∧ P ρ) (.nx ρ) := ⟨ρ, rfl, h⟩
@[simp] theorem wipe_one {ρ : Rho} {v : Nat} : wipeR ρ [v] = ρ.set v none := of_rfl rfl
@[simp] theorem unwipe_one {ρ ρw : Rho} {v : Nat} : unwipe ρ ρw [v] = ρw.set v (ρ[v]?.getD none) := of_rfl rfl
/-- over a range, no filter -/
theorem lc_rng {α : Type} (el : α → D) (P : Nat → α → Prop) {Q : Out → Prop} {src : Rho → Rs (List D)} {elt : Rho → Rs RV} {v : Nat} {ρ ρ1 : Rho} {lo : Int} {n : Nat} {f : RV → Rho → Out} (hs : src ρ = .ok (rngD lo n) ρ1) (hl : n ≤ 100000)
    (hb : ∀ i : Nat, i < n → ∃ ρ3 r y, elt ((ρ1.set v none).set v (some (.p (.int (lo + i))))) = .ok r ρ3 ∧ (frz r ρ3).set v none = ρ1.set v none ∧ view ρ3 r = el y ∧ P i y)
    (h : ∀ ys : List α, ys.length = n → (∀ (i : Nat) y, ys[i]? = some y → P i y) → Endg Q (f (.own (.l (ys.map el))) ((ρ1.set v none).set v (ρ1[v]?.getD none)))) : Endg Q ((eLc src (gN v) tYesF elt [v] ρ).thn f) := by
  refine lc_thn el P hs (by rw [rngD_len]; exact hl) (fun i d hd => ?_) (fun ys h1 h2 => h ys (by rw [h1, rngD_len]) h2)
  have hi := (List.getElem?_eq_some_iff.mp hd).1
  rw [rngD_len] at hi
  have := rngD_get hd
  subst this
  obtain ⟨ρ3, r, y, q1, q2, q3, q4⟩ := hb i hi
  exact ⟨_, _, ρ3, r, y, rfl, rfl, q1, q2, q3, q4⟩
theorem lc_rng1 {α : Type} (el : α → D) (P : Nat → α → Prop) {Q : Out → Prop} {a : Rho → Rs RV} {elt : Rho → Rs RV} {v : Nat} {ρ ρ1 : Rho} {n : Int} {f : RV → Rho → Out} (hs : a ρ = .ok (.d (.int n)) ρ1) (hl : n ≤ 100000) (hl0 : -100000 ≤ n)
    (hb : ∀ i : Nat, i < n.toNat → ∃ ρ3 r y, elt ((ρ1.set v none).set v (some (.p (.int i)))) = .ok r ρ3 ∧ (frz r ρ3).set v none = ρ1.set v none ∧ view ρ3 r = el y ∧ P i y)
    (h : ∀ ys : List α, ys.length = n.toNat → (∀ (i : Nat) y, ys[i]? = some y → P i y) → Endg Q (f (.own (.l (ys.map el))) ((ρ1.set v none).set v (ρ1[v]?.getD none)))) : Endg Q ((eLc (iRng1F a) (gN v) tYesF elt [v] ρ).thn f) := by
  refine lc_rng el P (by rw [iRng1_ev, hs]; simp only [bind_ok, view_d]; exact rng1R_ev (by omega) (by omega)) (by omega) (fun i hi => ?_) h
  rw [Int.zero_add]
  exact hb i hi
/-- a loop whose body only looks -/
theorem forL_chk {i : Nat} {body : Rho → Out} {ρ : Rho} {b0 : Option SV} {Q : Out → Prop} {ds : List D} (hb : ρ[i]? = some b0) (h : ∀ d, d ∈ ds → body (ρ.set i (some (.p d))) = .nx (ρ.set i (some (.p d)))) (k : ∀ b, Q (.nx (ρ.set i b))) : Endg Q (forL (gN i) body ds ρ) := by
  refine forL_wp (fun _ ρ' => ∃ b, ρ' = ρ.set i b) ⟨b0, ?_⟩ ?_ ?_
  · apply List.ext_getElem? fun j => ?_
    by_cases hj : i = j
    · subst hj
      rw [List.getElem?_set_self (List.getElem?_eq_some_iff.mp hb).1, hb]
    · rw [List.getElem?_set_ne hj]
  · rintro j d ρ' hd ⟨b, rfl⟩
    refine ⟨_, rfl, ?_⟩
    have e : (ρ.set i b).set i (some (SV.p d)) = ρ.set i (some (SV.p d)) := List.set_set ..
    rw [e, h d (List.mem_of_getElem? hd)]
    exact ⟨_, rfl⟩
  · rintro ρ' ⟨b, rfl⟩
    exact k b
def D.leaf : D → Bool
  | .int _ => true
  | .bl _ => true
  | .non => true
  | _ => false
theorem dokN_leaf {k : Nat} : ∀ {d : D}, d.leaf = true → dokN k d
  | .int _, _ => dokN_int
  | .bl _, _ => dokN_bl
  | .non, _ => dokN_non
/-- a list or tuple of leaves written out: by rfl -/
theorem dok_leaves {xs : List D} (h : xs.all D.leaf = true) : FP.dok (.lst xs) = true := (dokN_lst (k := 0) fun d hd => dokN_leaf (List.all_eq_true.mp h d hd)).dok (by decide)
theorem dok_leavesT {xs : List D} (h : xs.all D.leaf = true) : FP.dok (.tup xs) = true := (dokN_tup (k := 0) fun d hd => dokN_leaf (List.all_eq_true.mp h d hd)).dok (by decide)
@[simp] theorem leaf_int {n : Int} : (D.int n).leaf = true := rfl
@[simp] theorem leaf_bl {n : Bool} : (D.bl n).leaf = true := rfl
@[simp] theorem leaf_non : D.non.leaf = true := rfl
theorem all_leaf_ints : ∀ {ns : List Int}, (ns.map D.int).all D.leaf = true
  | [] => rfl
  | n :: ns => by rw [List.map_cons, List.all_cons, all_leaf_ints]; rfl
@[simp] theorem oEq_leaves {xs : List D} (h : xs.all D.leaf = true) : oEq (.lst xs) (.lst xs) = some (.bl true) := oEq_same rfl (dok_leaves h)
@[simp] theorem oNe_leaves {xs : List D} (h : xs.all D.leaf = true) : oNe (.lst xs) (.lst xs) = some (.bl false) := oNe_same rfl (dok_leaves h)
@[simp] theorem oEq_leavesT {xs : List D} (h : xs.all D.leaf = true) : oEq (.tup xs) (.tup xs) = some (.bl true) := oEq_same rfl (dok_leavesT h)
@[simp] theorem oNe_leavesT {xs : List D} (h : xs.all D.leaf = true) : oNe (.tup xs) (.tup xs) = some (.bl false) := oNe_same rfl (dok_leavesT h)
@[simp] theorem oEq_ints {ns : List Int} : oEq (.lst (ns.map .int)) (.lst (ns.map .int)) = some (.bl true) := oEq_same rfl dok_ints
@[simp] theorem oNe_ints {ns : List Int} : oNe (.lst (ns.map .int)) (.lst (ns.map .int)) = some (.bl false) := oNe_same rfl dok_ints
end FP
namespace FP
open PySem L2
section
variable {ρ ρ1 : Rho} {i j : Nat} {d d' : D} {a b c f g : Rho → Rs RV} {as ks : Rho → Rs (List RV)} {T : Rho → Rs Bool} {sv : SV} {m n : Int} {C : Addr} {fs : Fs} {dds : List D}
@[simp] theorem fInt_ev : fInt [.int m] = some (.int m) := of_rfl rfl
@[simp] theorem eFld_ev {x : Str} : eFld C x a ρ = (a ρ).bind fun y ρ1 => match view ρ1 y with
  | .ins C' fs => if C' = C then match fs.lookup x with
      | some d => .ok (.d d) ρ1
      | none => .err
    else .err
  | _ => .err := of_rfl rfl
@[simp] theorem eNeg_ev : eNeg a ρ = (a ρ).bind fun x ρ1 => match view ρ1 x with
  | .int i => .ok (.d (.int (-i))) ρ1
  | _ => .err := of_rfl rfl
@[simp] theorem eChn_ev : eChn T ρ = (T ρ).bind fun k ρ1 => .ok (.d (.bl k)) ρ1 := of_rfl rfl
@[simp] theorem eMakeK_ev {fn : List D → Ret} : eMakeK fn as ks dds ρ = (as ρ).bind fun rs ρ1 => (ks ρ1).bind fun zs ρ2 => ofRet (fn ((rs ++ zs).map (view ρ2) ++ dds)) (rs ++ zs) ρ2 := of_rfl rfl
@[simp] theorem eMeth_ev {x : Str} {fn : List D → Ret} : eMeth C x fn a as dds ρ = (a ρ).bind fun r ρ1 => match view ρ1 r with
  | .ins C' fs => if C' = C ∧ fs.lookup x = none then (as ρ1).bind fun rs ρ2 => ofRet (fn (view ρ2 r :: (rs.map (view ρ2) ++ dds))) (r :: rs) ρ2 else .err
  | _ => .err := of_rfl rfl
@[simp] theorem eProp_ev {fn : List D → Ret} : eProp C fn a ρ = (a ρ).bind fun r ρ1 => match view ρ1 r with
  | .ins C' fs => if C' = C then ofRet (fn [view ρ1 r]) [r] ρ1 else .err
  | _ => .err := of_rfl rfl
@[simp] theorem sFld_ev {x : Str} : sFld C i x a ρ = (a ρ).thn fun r ρ1 => match (frz r ρ1)[i]? with
  | some (some (.s p C' fs)) => if C' = C ∧ fs.length < 900 then .nx ((frz r ρ1).set i (some (.s p C' (putD x (view ρ1 r) fs)))) else .err
  | some (some (.i C' fs)) => if C' = C ∧ fs.length < 900 then .nx ((frz r ρ1).set i (some (.i C' (putD x (view ρ1 r) fs)))) else .err
  | _ => .err := of_rfl rfl
@[simp] theorem putD_nil {x : Str} : putD x d [] = [(x, d)] := of_rfl rfl
@[simp] theorem putD_cons {x y : Str} {r : Fs} : putD x d ((y, d') :: r) = if y = x then (y, d) :: r else (y, d') :: putD x d r := of_rfl rfl
@[simp] theorem toD_s {p : Addr} : (SV.s p C fs).toD = .ins C fs := of_rfl rfl
@[simp] theorem lf_i : (SV.i C fs).lf = fs.all fun f => f.2.lf := of_rfl rfl
@[simp] theorem iEnumL_ev : iEnumL f ρ = (f ρ).bind fun r ρ1 => match view ρ1 r with
  | .lst ds => .ok (enumD 0 ds) (frz r ρ1)
  | _ => .err := of_rfl rfl
@[simp] theorem iEnumT_ev : iEnumTF f ρ = (f ρ).bind fun r ρ1 => match view ρ1 r with
  | .tup ds => .ok (enumD 0 ds) (frz r ρ1)
  | _ => .err := of_rfl rfl
@[simp] theorem iRev_ev : iRevF f ρ = (f ρ).bind fun r ρ1 => match view ρ1 r with
  | .lst ds => .ok ds.reverse (frz r ρ1)
  | _ => .err := of_rfl rfl
@[simp] theorem sPar_ev : sPar i j as ρ = (as ρ).thn fun rs ρ1 => match rs with
  | [r, q] => .nx (((frzs rs ρ1).set i (some (.p (view ρ1 r)))).set j (some (.p (view ρ1 q))))
  | _ => .err := of_rfl rfl
theorem iAny_str {s : Str} {r : RV} (h : f ρ = .ok r ρ1) (hv : view ρ1 r = .str s) : iAny f ρ = .ok (signs s) ρ1 := by
  unfold iAny iStrF; rw [h]; simp [hv]
@[simp] theorem bTuple_ev {r : RV} : bTuple ρ [r] = match view ρ r with
    | .tup xs => .ok (.d (.tup xs)) (frz r ρ)
    | .lst xs => .ok (.d (.tup xs)) ρ
    | .frz xs => .ok (.d (.tup xs)) ρ
    | _ => .err := of_rfl rfl
@[simp] theorem fLen_str {s : Str} (h : s.length ≤ 100000) : fLen [.str s] = some (.int (s.length : Nat)) := by
  unfold fLen D.len; simp [h]
@[simp] theorem blsD_bls : ∀ {ns : List Bool}, blsD (ns.map D.bl) = some ns
  | [] => rfl
  | n :: ns => by rw [List.map_cons]; show (blsD (ns.map D.bl)).map (n :: ·) = _; rw [blsD_bls]; rfl
@[simp] theorem fAll_bls {bs : List Bool} : fAll [.lst (bs.map D.bl)] = some (.bl (bs.all _root_.id)) := by
  show ((some (bs.map D.bl)).bind blsD).map _ = _
  rw [Option.bind_some, blsD_bls]; rfl
@[simp] theorem fAny_bls {bs : List Bool} : fAny [.lst (bs.map D.bl)] = some (.bl (bs.any _root_.id)) := by
  show ((some (bs.map D.bl)).bind blsD).map _ = _
  rw [Option.bind_some, blsD_bls]; rfl
theorem lfL_map {α : Type} {el : α → D} : ∀ {xs : List α}, (∀ x, x ∈ xs → (el x).lf = true) → lfL (xs.map el) = true
  | [], _ => rfl
  | x :: xs, h => by
    rw [List.map_cons, lfL_cons, h x List.mem_cons_self, lfL_map fun y hy => h y (List.mem_cons_of_mem _ hy)]; rfl
@[simp] theorem oIn_sign {k : Nat} {z : Str} : oIn (.str ⟨#[k]⟩) (.str z) = some (.bl (decide (k ∈ z.cps.toList))) := of_rfl rfl
@[simp] theorem oNotIn_sign {k : Nat} {z : Str} : oNotIn (.str ⟨#[k]⟩) (.str z) = some (.bl !(decide (k ∈ z.cps.toList))) := of_rfl rfl
theorem flats_strs : ∀ {ns : List Str}, flats (ns.map D.str) = some (ns.map V.str)
  | [] => rfl
  | n :: ns => by rw [List.map_cons, flats, flats_strs]; rfl
theorem inV_strs {s : Str} : ∀ {ns : List Str}, inV (.str s) (ns.map V.str) = decide (s ∈ ns)
  | [] => by simp [inV]
  | n :: ns => by
    have ih := inV_strs (s := s) (ns := ns)
    show (eqV (.str n) (.str s) || inV (.str s) (ns.map V.str)) = _
    rw [ih]
    have e : eqV (.str n) (.str s) = decide (s = n) := by
      show (n == s) = decide (s = n)
      by_cases h : s = n
      · subst h; simp
      · have h' : ¬ n = s := fun z => h z.symm
        rw [decide_eq_false h]
        exact beq_eq_false_iff_ne.mpr h'
    rw [e]
    simp
@[simp] theorem oIn_strs {s : Str} {ns : List Str} : oIn (.str s) (.lst (ns.map D.str)) = some (.bl (decide (s ∈ ns))) := by
  unfold oIn D.inS
  simp [D.items, D.flat, flats_strs, inV_strs]
@[simp] theorem oNotIn_strs {s : Str} {ns : List Str} : oNotIn (.str s) (.lst (ns.map D.str)) = some (.bl !(decide (s ∈ ns))) := by
  unfold oNotIn D.inS
  simp [D.items, D.flat, flats_strs, inV_strs]
theorem eqv_str {x y : Str} : D.eqv (.str x) (.str y) = some (decide (x = y)) := by
  unfold D.eqv
  simp [D.flat, scal]
@[simp] theorem oEq_str {x y : Str} : oEq (.str x) (.str y) = some (.bl (decide (x = y))) := by
  unfold oEq; rw [eqv_str]; rfl
@[simp] theorem oNe_str {x y : Str} : oNe (.str x) (.str y) = some (.bl !(decide (x = y))) := by
  unfold oNe; rw [eqv_str]; rfl
end
/-! ## Objects -/
theorem mkF_ok {C : Addr} {fn : Addr → List D → Option Fs} {ds : List D} {fs : Fs} (h : ∀ p, fn p ds = some fs) : mkF C fn ds = .ok (.i C fs) := by
  unfold mkF; rw [initR_ok h]
theorem runI_wp {n k : Nat} {C p : Addr} {G : Rho → Out} {ds : List D} {fs : Fs} (hl : ds.length = k) (h : Endg (fun o => match o with
    | .nx ρ => endI p C ρ = some fs
    | .rt (.d .non) ρ => endI p C ρ = some fs
    | _ => False) (G (startI n p C ds))) : runI n k C G p ds = some fs := by
  unfold runI
  rw [if_pos hl]
  cases e : G (startI n p C ds) with
  | err => rw [e] at h; exact h.elim
  | nx ρ => rw [e] at h; exact h
  | rt r ρ =>
    rw [e] at h
    cases r with
    | d d => cases d <;> first | exact h | exact h.elim
    | _ => exact h.elim
  | bk ρ => rw [e] at h; exact h.elim
  | ct ρ => rw [e] at h; exact h.elim
  | exc x ρ => rw [e] at h; exact h.elim
/-! ## A comprehension over a sequence of known items -/
theorem lc_seq {α β : Type} {ex : α → D} (el : β → D) (fx : α → β) {xs : List α} {Q : Out → Prop} {a : Rho → Rs RV} {elt : Rho → Rs RV} {v : Nat} {ρ ρ0 ρ1 : Rho} {r : RV} {f : RV → Rho → Out} (hs : a ρ = .ok r ρ0) (hi : (view ρ0 r).items = some (xs.map ex)) (hf : frz r ρ0 = ρ1) (hl : xs.length ≤ 100000)
    (hb : ∀ x, x ∈ xs → ∃ ρ3 r', elt ((ρ1.set v none).set v (some (.p (ex x)))) = .ok r' ρ3 ∧ (frz r' ρ3).set v none = ρ1.set v none ∧ view ρ3 r' = el (fx x))
    (h : Endg Q (f (.own (.l ((xs.map fx).map el))) ((ρ1.set v none).set v (ρ1[v]?.getD none)))) : Endg Q ((eLc (iSeq a) (gN v) tYesF elt [v] ρ).thn f) := by
  subst hf
  refine lc_thn el (fun i y => ∃ x, xs[i]? = some x ∧ y = fx x) (ds := xs.map ex) (ρ1 := frz r ρ0) (by rw [iSeq_ev, hs]; simp only [bind_ok, hi]) (by rw [List.length_map]; exact hl) (fun i d hd => ?_) (fun ys h1 h2 => ?_)
  · obtain ⟨x, hx, rfl⟩ := get_map hd
    obtain ⟨ρ3, r', q1, q2, q3⟩ := hb x (List.mem_of_getElem? hx)
    exact ⟨_, _, ρ3, r', fx x, rfl, rfl, q1, q2, q3, x, hx, rfl⟩
  · have e : ys = xs.map fx := eq_of_P (by rw [h1]; simp) fun i y z hy hz => by
      obtain ⟨x, hx, rfl⟩ := h2 i y hy
      rw [List.getElem?_map, hx] at hz
      exact (Option.some.inj hz)
    subst e
    exact h
theorem lc_str {β : Type} (el : β → D) (fx : Nat → β) {s : Str} {Q : Out → Prop} {a : Rho → Rs RV} {elt : Rho → Rs RV} {v : Nat} {ρ ρ0 : Rho} {r : RV} {f : RV → Rho → Out} (hs : a ρ = .ok r ρ0) (hi : view ρ0 r = .str s) (hl : s.length ≤ 100000)
    (hb : ∀ x, x ∈ s.cps.toList → ∃ ρ3 r', elt ((ρ0.set v none).set v (some (.p (.str ⟨#[x]⟩)))) = .ok r' ρ3 ∧ (frz r' ρ3).set v none = ρ0.set v none ∧ view ρ3 r' = el (fx x))
    (h : Endg Q (f (.own (.l ((s.cps.toList.map fx).map el))) ((ρ0.set v none).set v (ρ0[v]?.getD none)))) : Endg Q ((eLc (iAny a) (gN v) tYesF elt [v] ρ).thn f) := by
  have sl : (signs s).length = s.length := by simp [signs, Str.length]
  refine lc_thn el (fun i y => ∃ x, s.cps.toList[i]? = some x ∧ y = fx x) (iAny_str hs hi) (by rw [sl]; exact hl) (fun i d hd => ?_) (fun ys h1 h2 => ?_)
  · obtain ⟨x, hx, rfl⟩ := get_map (el := fun c => D.str ⟨#[c]⟩) hd
    obtain ⟨ρ3, r', q1, q2, q3⟩ := hb x (List.mem_of_getElem? hx)
    exact ⟨_, _, ρ3, r', fx x, rfl, rfl, q1, q2, q3, x, hx, rfl⟩
  · have e : ys = s.cps.toList.map fx := eq_of_P (by rw [h1, sl]; simp [Str.length]) fun i y z hy hz => by
      obtain ⟨x, hx, rfl⟩ := h2 i y hy
      rw [List.getElem?_map, hx] at hz
      exact (Option.some.inj hz)
    subst e
    exact h
/-! ## items by place -/
theorem atI_at {α : Type} {xs : List α} {i : Nat} {x : α} (h : xs[i]? = some x) : atI xs (i : Int) = some x := by
  obtain ⟨hl, rfl⟩ := List.getElem?_eq_some_iff.mp h
  have := atI_get (xs := xs) (i := (i : Int)) (by omega) (by simpa using hl)
  rw [this]
  simp
theorem ixR_at {α : Type} {el : α → D} {xs : List α} {i : Nat} {x : α} (h : xs[i]? = some x) (ρ : Rho) : ixR (.lst (xs.map el)) (i : Int) ρ = .ok (.d (el x)) ρ := by
  have e := atI_at (xs := xs.map el) (i := i) (x := el x) (by rw [List.getElem?_map, h]; rfl)
  unfold ixR; simp only [items_lst, e]
theorem ixR_atT {α : Type} {el : α → D} {xs : List α} {i : Nat} {x : α} (h : xs[i]? = some x) (ρ : Rho) : ixR (.tup (xs.map el)) (i : Int) ρ = .ok (.d (el x)) ρ := by
  have e := atI_at (xs := xs.map el) (i := i) (x := el x) (by rw [List.getElem?_map, h]; rfl)
  unfold ixR; simp only [items_tup, e]
@[simp] theorem ixR_intsT {ρ : Rho} {ns : List Int} {i : Int} (h : 0 ≤ i) (h' : i < ns.length) : ixR (.tup (ns.map .int)) i ρ = .ok (.d (.int (at0 ns i))) ρ := by
  have hl : i.toNat < ns.length := by omega
  rw [ixR_tup h hl, at0, List.getD_eq_getElem?_getD, List.getElem?_eq_getElem hl]; rfl
/-- a written tuple or list, a written place -/
theorem ixR_lit {xs : List D} {i : Int} {d : D} {ρ : Rho} (h : atI xs i = some d) : ixR (.tup xs) i ρ = .ok (.d d) ρ := by
  unfold ixR; simp [h]
theorem ixR_litL {xs : List D} {i : Int} {d : D} {ρ : Rho} (h : atI xs i = some d) : ixR (.lst xs) i ρ = .ok (.d d) ρ := by
  unfold ixR; simp [h]
@[simp] theorem ixR_t0 {d : D} {xs : List D} {ρ : Rho} : ixR (.tup (d :: xs)) 0 ρ = .ok (.d d) ρ := ixR_lit (by
  have := atI_at (xs := d :: xs) (i := 0) (x := d) rfl
  exact this)
@[simp] theorem ixR_t1 {d e : D} {xs : List D} {ρ : Rho} : ixR (.tup (d :: e :: xs)) 1 ρ = .ok (.d e) ρ := ixR_lit (by
  have := atI_at (xs := d :: e :: xs) (i := 1) (x := e) rfl
  exact this)
@[simp] theorem ixR_t2 {d e f : D} {xs : List D} {ρ : Rho} : ixR (.tup (d :: e :: f :: xs)) 2 ρ = .ok (.d f) ρ := ixR_lit (by
  have := atI_at (xs := d :: e :: f :: xs) (i := 2) (x := f) rfl
  exact this)
@[simp] theorem isTy_ll : isTy "list" "list" = true := by decide +kernel
@[simp] theorem isTy_tt : isTy "tuple" "tuple" = true := by decide +kernel
@[simp] theorem tyN_lst {xs : List D} : (D.lst xs).tyN = some "list" := of_rfl rfl
@[simp] theorem tyN_tup {xs : List D} : (D.tup xs).tyN = some "tuple" := of_rfl rfl
@[simp] theorem tyN_str {x : Str} : (D.str x).tyN = some "str" := of_rfl rfl
@[simp] theorem isTy_ss : isTy "str" "str" = true := by decide +kernel
end FP
namespace FP
open PySem L2
/-! ## Texts by their code points -/
def sN (l : List Nat) : Str := ⟨l.toArray⟩
theorem sN_toList {l : List Nat} : (sN l).cps.toList = l := by simp [sN]
theorem sN_len {l : List Nat} : (sN l).length = l.length := by simp [sN, Str.length]
theorem sN_inj {l m : List Nat} (h : sN l = sN m) : l = m := by
  have := congrArg (fun s : Str => s.cps.toList) h
  simpa [sN_toList] using this
theorem sN_app {l m : List Nat} : sN l ++ sN m = sN (l ++ m) := by
  show (⟨l.toArray ++ m.toArray⟩ : Str) = ⟨(l ++ m).toArray⟩
  simp
theorem sN_one {c : Nat} : (⟨#[c]⟩ : Str) = sN [c] := rfl
theorem sIx_to {n : Nat} {p : Int} (h : 0 ≤ p) (d : Nat) : HT.sIx n d (some p) = min p.toNat n := by
  have := HT.sIx_nat n d p.toNat
  rwa [show ((p.toNat : Nat) : Int) = p by omega] at this
theorem cutS_to {l : List Nat} {p : Int} (h : 0 ≤ p) : cutS (sN l) none (some p) = sN (l.take p.toNat) := by
  unfold cutS
  rw [HT.sIx_none, sIx_to h, sN_toList, List.drop_zero, Nat.sub_zero, sN_len]
  show sN _ = sN _
  congr 1
  by_cases hl : p.toNat ≤ l.length
  · rw [Nat.min_eq_left hl]
  · rw [Nat.min_eq_right (by omega), List.take_length, List.take_of_length_le (by omega)]
theorem cutS_from {l : List Nat} {p : Int} (h : 0 ≤ p) : cutS (sN l) (some p) none = sN (l.drop p.toNat) := by
  unfold cutS
  rw [HT.sIx_none, sIx_to h, sN_toList, sN_len]
  show sN _ = sN _
  congr 1
  by_cases hl : p.toNat ≤ l.length
  · rw [Nat.min_eq_left hl, List.take_of_length_le (by simp)]
  · rw [Nat.min_eq_right (by omega), List.drop_length, List.drop_of_length_le (by omega)]
    simp
theorem foldl_cps : ∀ (ls : List Nat) (acc : Array Nat), (ls.map fun c => (⟨#[c]⟩ : Str)).foldl (fun acc p => acc ++ (Str.ofString "").cps ++ p.cps) acc = acc ++ ls.toArray
  | [], acc => by simp
  | c :: ls, acc => by
    rw [List.map_cons, List.foldl_cons, foldl_cps ls]
    have : (Str.ofString "").cps = #[] := by decide +kernel
    rw [this]
    simp
theorem join_sN {ls : List Nat} : Txt.join "" (ls.map fun c => (⟨#[c]⟩ : Str)) = sN ls := by
  show Builtin.Str.glued _ _ = _
  unfold Builtin.Str.glued
  cases ls with
  | nil => decide +kernel
  | cons c ls =>
    rw [List.map_cons, List.drop_one, List.tail_cons, foldl_cps]
    simp [sN]
@[simp] theorem strsD_strs : ∀ {ns : List Str}, strsD (ns.map D.str) = some ns
  | [] => rfl
  | n :: ns => by rw [List.map_cons]; show (strsD (ns.map D.str)).map (n :: ·) = _; rw [strsD_strs]; rfl
section
variable {ρ : Rho} {a b : Rho → Rs RV} {z : Str} {i : Int}
theorem eJoin_ev : eJoin a b ρ = (a ρ).bind fun x ρ1 => match view ρ1 x with
  | .str s => (b ρ1).bind fun y ρ2 => match (view ρ2 y).items.bind strsD with
    | some ys => if (ys.map (·.length)).sum + ys.length * s.length ≤ 100000 then .ok (.d (.str (Txt.join s ys))) ρ2 else .err
    | none => .err
  | _ => .err := rfl
theorem ixR_str {c : Nat} (h : z.length ≤ 100000) (e : atI z.cps.toList i = some c) : ixR (.str z) i ρ = .ok (.d (.str ⟨#[c]⟩)) ρ := by
  unfold ixR; simp [h, e]
theorem lfL_strs : ∀ {ns : List Str}, lfL (ns.map D.str) = true
  | [] => rfl
  | n :: ns => by rw [List.map_cons, lfL_cons, lfL_strs]; rfl
end
end FP
namespace FP
open PySem L2
/-! ## A comprehension with a condition -/
theorem lcL_flt {α β : Type} {ex : α → D} {el : β → D} {fx : α → β} {pr : α → Bool} {tt : Rho → Rs Bool} {elt : Rho → Rs RV} {v : Nat} {ρ : Rho} : ∀ {xs : List α} {acc : List β}, acc.length + xs.length ≤ 100000 →
    (∀ x, x ∈ xs → ∃ ρ2, tt (ρ.set v (some (.p (ex x)))) = .ok (pr x) ρ2 ∧ (pr x = true → ∃ ρ3 r', elt ρ2 = .ok r' ρ3 ∧ (frz r' ρ3).set v none = ρ ∧ view ρ3 r' = el (fx x)) ∧ (pr x = false → ρ2.set v none = ρ)) →
    lcL (gN v) tt elt [v] (xs.map ex) ρ (acc.map el) = some ((acc ++ (xs.filter pr).map fx).map el, ρ)
  | [], acc, _, _ => by simp [lcL]
  | x :: xs, acc, hl, h => by
    obtain ⟨ρ2, h1, h2, h3⟩ := h x List.mem_cons_self
    rw [List.map_cons]
    unfold lcL
    rw [gN_ev]
    dsimp only
    rw [h1]
    cases hp : pr x with
    | true =>
      obtain ⟨ρ3, r', e1, e2, e3⟩ := h2 hp
      dsimp only
      rw [e1]
      dsimp only
      rw [if_pos (by simp only [List.length_map, List.length_cons] at hl ⊢; omega), e3, wipe_one, e2]
      have := lcL_flt (ex := ex) (el := el) (fx := fx) (pr := pr) (tt := tt) (elt := elt) (v := v) (ρ := ρ) (xs := xs) (acc := acc ++ [fx x]) (by simp only [List.length_append, List.length_cons, List.length_nil] at hl ⊢; omega) (fun y hy => h y (List.mem_cons_of_mem _ hy))
      rw [List.map_append] at this
      rw [List.filter_cons_of_pos hp, List.map_cons]
      rw [show acc ++ fx x :: (xs.filter pr).map fx = acc ++ [fx x] ++ (xs.filter pr).map fx by simp]
      exact this
    | false =>
      dsimp only
      rw [wipe_one, h3 hp, List.filter_cons_of_neg (by simp [hp])]
      exact lcL_flt (by simp only [List.length_cons] at hl ⊢; omega) (fun y hy => h y (List.mem_cons_of_mem _ hy))
theorem lc_flt {α β : Type} {ex : α → D} (el : β → D) (fx : α → β) (pr : α → Bool) {xs : List α} {Q : Out → Prop} {a : Rho → Rs RV} {tt : Rho → Rs Bool} {elt : Rho → Rs RV} {v : Nat} {ρ ρ0 ρ1 : Rho} {r : RV} {f : RV → Rho → Out} (hs : a ρ = .ok r ρ0) (hi : (view ρ0 r).items = some (xs.map ex)) (hf : frz r ρ0 = ρ1) (hl : xs.length ≤ 100000)
    (hb : ∀ x, x ∈ xs → ∃ ρ2, tt ((ρ1.set v none).set v (some (.p (ex x)))) = .ok (pr x) ρ2 ∧ (pr x = true → ∃ ρ3 r', elt ρ2 = .ok r' ρ3 ∧ (frz r' ρ3).set v none = ρ1.set v none ∧ view ρ3 r' = el (fx x)) ∧ (pr x = false → ρ2.set v none = ρ1.set v none))
    (h : Endg Q (f (.own (.l (((xs.filter pr).map fx).map el))) ((ρ1.set v none).set v (ρ1[v]?.getD none)))) : Endg Q ((eLc (iSeq a) (gN v) tt elt [v] ρ).thn f) := by
  subst hf
  have e := lcL_flt (ex := ex) (el := el) (fx := fx) (pr := pr) (tt := tt) (elt := elt) (v := v) (ρ := (frz r ρ0).set v none) (xs := xs) (acc := []) (by simpa using hl) hb
  unfold eLc
  have e2 : iSeq a ρ = .ok (xs.map ex) (frz r ρ0) := by rw [iSeq_ev, hs]; simp only [bind_ok, hi]
  rw [e2]
  simp only [bind_ok, wipe_one]
  rw [List.map_nil, List.nil_append] at e
  rw [e]
  exact h
end FP
namespace FP
open PySem L2
section
variable {X : Cx} {W : WX} {pos : Pos} {e ix : Expr} {F I : Rho → Rs RV}
/-! ## x[i] = e, x[i] op= e of a slot's list -/
def sIdx (i : Nat) (b a : Rho → Rs RV) : Rho → Out := fun ρ => (a ρ).thn fun r ρ1 => match (frz r ρ1)[i]? with
  | some (some (.l _)) => (b (frz r ρ1)).thn fun q ρ2 => match view ρ2 q, ρ2[i]? with
    | .int k, some (some (.l xs)) => match ixN xs.length k with
      | some j => .nx (ρ2.set i (some (.l (xs.set j (view ρ1 r)))))
      | none => .err
    | _, _ => .err
  | _ => .err
theorem fs_idx {i : Nat} {x : Str} {p1 p2 : Pos} (hN : X.N[i]? = some x) (hv : Vis X.env.scope x) (h' : FE X W ix I) (h : FE X W e F)
    (ha : ∀ v, assign (.Subscript (.Name x p1) ix p2) X.env v = (do
      let ov ← holding [v] (eval (.Name x p1) X.env)
      let iv ← holding [v, ov] (eval ix X.env)
      standAt p2
      holding [v, ov, iv] (setItem ov iv v)
      release [v, ov, iv] []) := by intro _; rfl)
    (hs : swapsWithSole [.Subscript (.Name x p1) ix p2] e pos.line X.env = pure false := by rfl) (hw : swappedStores [.Subscript (.Name x p1) ix p2] e X.env = pure none := by rfl)
    (h1 : (assignEach [.Subscript (.Name x p1) ix p2] X.env).map (·.2) = [assign (.Subscript (.Name x p1) ix p2) X.env] := by rfl)
    (hd : (x == ("__debug__" : Str)) = false := by decide) (hcd : (x == ("__classdict__" : Str)) = false := by decide) :
    FS X W (.Assign [.Subscript (.Name x p1) ix p2] e pos) (sIdx i I F) := by
  obtain ⟨t, p, o⟩ := h.ex
  obtain ⟨t', p', o'⟩ := h'.ex
  refine ⟨_, ps_asg p (pg_sub (pe_var hN hv hd hcd) p' set_list ha) hs hw h1, fun B H σ ρ D S post => ?_⟩
  refine o B H σ ρ _ S (post.ahead fun r ρ1 B1 H1 S1 st1 f1 post1 v hv => ?_)
  obtain ⟨B2, x2, S2, st2, rp, _⟩ := take1 S1 st1 hv
  split at post1
  · rename_i xs0 e0
    obtain ⟨v0, hva, a, vs0, rfl, q1, q2, q3⟩ := S2.slot i _ e0
    refine ⟨.ref a, hva, ?_⟩
    refine o' B2 H1 σ _ _ S2 (post1.ahead' st2 fun q ρ2 B3 H3 S3 st3 f3 post3 w hw => ?_)
    split at post3
    · rename_i k xs e1 e2
      have g := hw.view S3
      rw [e1] at g
      cases rp_int g
      split at post3
      · rename_i j ej
        obtain ⟨v', e3, a', vs, e4, e5, e6, e7⟩ := S3.slot i _ e2
        rw [hva] at e3; cases e3; cases e4
        refine ⟨a, vs, k, j, rfl, rfl, e6, by rw [e7.length]; exact ej, ?_⟩
        obtain ⟨S4, st4⟩ := mutS (sv' := .l (xs.set j (view ρ1 r))) (o := .lst (vs.set j v)) S3 e2 rfl hva ⟨a, _, rfl, e5, upd_same, e7.set j (Rp.up st3.bb rp)⟩ rfl
        exact post3 B3 _ σ S4 ((st2.trans st3).trans st4)
      · exact post3.elim
    · exact post3.elim
  · exact post1.elim
def rGetL (K : PySem.W.Frag) : V → V → Hp → VK → Prop := fun o i H Q => ∃ p xs k v, o = .ref p ∧ i = .int k ∧ SqL K H p xs ∧ atI xs k = some v ∧ Q v H
theorem get_lst : PGet X (rGetL X.K) := by
  intro pins s σ H o i ov iv Q I ro ri h
  obtain ⟨p, xs, k, z, rfl, rfl, hq, he, q⟩ := h
  cases ro
  obtain ⟨t, rfl⟩ := ri
  obtain ⟨its, r, pl, hz⟩ := I.list hq
  obtain ⟨j, h1, h2, h3, h4, h5⟩ := L2.atI_get he
  obtain ⟨w, ew, rw'⟩ := r.get h2
  have hl := r.length
  have hn := line63
  have fin : EP X pins σ Q w s := ⟨z, H, I, rw', q⟩
  by_cases h0 : 0 ≤ k
  · have hj : k.toNat = j := by
      rw [seqIndex_of h0 h5] at h1
      exact Option.some.inj h1
    exact wpAny_getItem_list pl.isList h0 (by omega) (by rw [hj]; simpa using ew) fin
  · have hj : (k + (its.toArray.size : Int)).toNat = j := by
      rw [seqIndex_neg (by omega) h4] at h1
      rw [List.size_toArray, ← hl]
      exact Option.some.inj h1
    exact wpAny_getItem_list_neg pl.isList (by omega) (by rw [List.size_toArray] <;> omega) (by omega) (by rw [hj]; simpa using ew) fin
def sIdxAug (i : Nat) (f : D → D → Option D) (b a : Rho → Rs RV) : Rho → Out := fun ρ => match ρ[i]? with
  | some (some (.l _)) => (b ρ).thn fun q ρ1 => match view ρ1 q, ρ1[i]? with
    | .int k, some (some (.l xs)) => match atI xs k with
      | some d => (a ρ1).thn fun r ρ2 => match f d (view ρ2 r), ρ2[i]? with
        | some d', some (some (.l ys)) => match ixN ys.length k with
          | some j => .nx (ρ2.set i (some (.l (ys.set j d'))))
          | none => .err
        | _, _ => .err
      | none => .err
    | _, _ => .err
  | _ => .err
theorem fs_idxAug {i : Nat} {x : Str} {p1 p2 : Pos} {op : Operator} {f : D → D → Option D} (hN : X.N[i]? = some x) (hv : Vis X.env.scope x) (ho : Op2 X (inplaceOp op) f) (h' : FE X W ix I) (h : FE X W e F)
    (ha : ∀ ov iv new, augStore ix ov iv new = (do holding [new, ov, iv] (setItem ov iv new); release [new, ov, iv] []; pure .next) := by intros; rfl)
    (hd : (x == ("__debug__" : Str)) = false := by decide) (hcd : (x == ("__classdict__" : Str)) = false := by decide) :
    FS X W (.AugAssign (.Subscript (.Name x p1) ix p2) op e pos) (sIdxAug i f I F) := by
  obtain ⟨t, p, o⟩ := h.ex
  obtain ⟨t', p', o'⟩ := h'.ex
  obtain ⟨r0, hr0, hf⟩ := ho.ex
  refine ⟨_, ps_augS (pe_var hN hv hd hcd) p' get_lst p (tip := r0) hr0 set_list ha, fun B H σ ρ D S post => ?_⟩
  unfold sIdxAug at post
  split at post
  · rename_i xs0 e0
    obtain ⟨v0, hva, a, vs0, rfl, q1, q2, q3⟩ := S.slot i _ e0
    refine ⟨.ref a, hva, ?_⟩
    refine o' B H σ ρ _ S (post.ahead fun q ρ1 B1 H1 S1 st1 f1 post1 w hw => ?_)
    split at post1
    · rename_i k xs e1 e2
      have g := hw.view S1
      rw [e1] at g
      cases rp_int g
      split at post1
      · rename_i d ed
        obtain ⟨v', e3, a', vs, e4, e5, e6, e7⟩ := S1.slot i _ e2
        rw [hva] at e3; cases e3; cases e4
        obtain ⟨z, h5, h6⟩ := atI_rp e7 ed
        refine ⟨a, vs, k, z, rfl, rfl, SqL.of e6, h5, ?_⟩
        refine o B1 H1 σ ρ1 _ S1 (post1.ahead' st1 fun r ρ2 B2 H2 S2 st2 f2 post2 u hu => ?_)
        split at post2
        · rename_i d' ys e8 e9
          split at post2
          · rename_i j ej
            obtain ⟨v', k3, a', us, k4, k5, k6, k7⟩ := S2.slot i _ e9
            rw [hva] at k3; cases k3; cases k4
            refine hf H2 z u d _ d' _ (Rp.up (st2.bb.trans S2.ex) h6) (hu.view S2) e8 fun y hy => ?_
            refine ⟨a, us, k, j, rfl, rfl, k6, by rw [k7.length]; exact ej, ?_⟩
            obtain ⟨S4, st4⟩ := mutS (sv' := .l (ys.set j d')) (o := .lst (us.set j y)) S2 e9 rfl hva ⟨a, _, rfl, k5, upd_same, k7.set j (hy _)⟩ rfl
            exact post2 B2 _ σ S4 ((st1.trans st2).trans st4)
          · exact post2.elim
        · exact post2.elim
      · exact post1.elim
    · exact post1.elim
  · exact post.elim
/-! ## xs[::-1] -/
theorem RpL.reverse {K : PySem.W.Frag} {B : Hp} : ∀ {ds : List D} {vs : List V}, RpL K B ds vs → RpL K B ds.reverse vs.reverse
  | [], _, h => by rw [show _ = [] from h]; exact rfl
  | d :: ds, _, ⟨v, r, h1, h2, h3⟩ => by
    subst h1
    rw [List.reverse_cons, List.reverse_cons]
    exact (RpL.reverse h3).append (RpL.cons h2 RpL.nil)
def eRevL (a : Rho → Rs RV) : Rho → Rs RV := fun ρ => (a ρ).bind fun r ρ1 => match view ρ1 r with
  | .lst xs => .ok (.own (.l xs.reverse)) ρ1
  | .frz xs => .ok (.own (.l xs.reverse)) ρ1
  | _ => .err
theorem fe_revL {k : Nat} {p1 p2 p3 : Pos} (h : FE X W e F) : FE X W (.Subscript e (.Slice none none (some (.UnaryOp .USub (.Constant (.int 1) k p1) p2)) p3) pos) (eRevL F) := by
  obtain ⟨t, pe, o⟩ := h.ex
  refine ⟨_, pe_revL pe, fun B H σ ρ Q S post => ?_⟩
  refine o B H σ ρ _ S (post.bind0 fun r ρ1 B1 H1 S1 st1 f1 post1 v hv => ?_)
  split at post1
  · rename_i xs e1
    obtain ⟨a, vs, rfl, h1, h2⟩ := hv.items S1 e1
    refine ⟨a, vs, rfl, SqL.of h1, fun q hq => ?_⟩
    exact post1 _ _ (S1.new hq) (st1.trans (Step.new S1 hq)) f1 _ ⟨rfl, ⟨q, _, rfl, S1.notNew hq, upd_same, h2.reverse⟩, rfl, q, rfl, st1.dom q hq, S1.notOwn hq⟩
  · rename_i xs e1
    obtain ⟨a, vs, rfl, h1, h2⟩ := hv.fitems S1 e1
    refine ⟨a, vs, rfl, h1, fun q hq => ?_⟩
    exact post1 _ _ (S1.new hq) (st1.trans (Step.new S1 hq)) f1 _ ⟨rfl, ⟨q, _, rfl, S1.notNew hq, upd_same, h2.reverse⟩, rfl, q, rfl, st1.dom q hq, S1.notOwn hq⟩
  · exact post1.elim
end
section
variable {X : Cx} {W : WX} {p pos apos : Pos} {x m : Str} {e o : Expr} {es : List Expr} {As Ks : Rho → Rs (List RV)} {F : Rho → Rs RV} {k : Nat} {f C : Addr} {fd : FuncData} {ps ks : List Str} {fn : List D → Ret} {dds : List D} {dvs : List V} {ds : List Value} {kws : List Keyword}
/-! ## f(e, .., k = v, ..) -/
theorem fe_callK {gf : List Value → List Value → List Value} {gV : List V → List V → List V} (Fn : FnOk X.prog X.w X.K X.mg X.base CX0 k f fd ps (spF X.K fn)) (hr : Room k X.A) (hg : Gl X x) (hm : X.mg x = some (.ref f)) (hkp : PySem.W.keepIn X.K (.ref f) = true) (hb : KBn X.K fd ps (e :: es).length ks gf gV)
    (hgv : ∀ (vs zs : List V), vs.length = (e :: es).length → zs.length = ks.length → gV vs zs = vs ++ zs ++ dvs) (hdd : ∀ B, RpL X.K B dds dvs)
    (ha : FA X W (e :: es) As) (hk : FK X W kws Ks) (la : ∀ ρ rs ρ', As ρ = .ok rs ρ' → rs.length = (e :: es).length) (lk : ∀ ρ rs ρ', Ks ρ = .ok rs ρ' → rs.length = ks.length)
    (hall : (backToKw pos (keywordEach kws X.env)).all (·.1.isSome) = true := by rfl) (hks : (backToKw pos (keywordEach kws X.env)).filterMap (·.1) = ks := by rfl) (hdb : (x == ("__debug__" : Str)) = false := by decide)
    (he : starEach (e :: es) X.env = (false, eval e X.env) :: starEach es X.env := by rfl) (hpl : ((backTo pos (starEach (e :: es) X.env)).any (·.1) || (backToKw pos (keywordEach kws X.env)).any (·.1.isNone)) = false := by rfl) :
    FE X W (.Call (.Name x p) (e :: es) kws pos) (eMakeK fn As Ks dds) := by
  obtain ⟨t, pa, oa⟩ := ha.ex
  obtain ⟨tk, pk, ok⟩ := hk.ex
  refine ⟨_, pe_callN Fn hr hg hm hkp hb pass0 pa pk hall hks hdb he hpl, fun B H σ ρ Q S post => ?_⟩
  cases e1 : As ρ with
  | err => unfold eMakeK at post; rw [e1] at post; exact post.elim
  | exc y ρ1 =>
    unfold eMakeK at post; rw [e1] at post
    refine oa B H σ ρ _ S ?_
    rw [e1]
    exact post
  | ok rs ρ1 =>
    unfold eMakeK at post; rw [e1] at post
    refine oa B H σ ρ _ S ?_
    rw [e1]
    intro B1 H1 S1 st1 f1 vs hvs
    cases e2 : Ks ρ1 with
    | err => rw [bind_ok, e2] at post; exact post.elim
    | exc y ρ2 =>
      rw [bind_ok, e2] at post
      refine ok B1 H1 σ ρ1 _ S1 ?_
      rw [e2]
      exact fun B' H' cls d S' st' xr => post B' H' cls d S' (st1.trans st') (xr.h0 st1.dom)
    | ok zs ρ2 =>
      rw [bind_ok, e2] at post
      refine ok B1 H1 σ ρ1 _ S1 ?_
      rw [e2]
      intro B2 H2 S2 st2 f2 ws hws
      have lv : vs.length = (e :: es).length := by rw [rvl_len hvs.1]; exact la _ _ _ e1
      have lw : ws.length = ks.length := by rw [rvl_len hws.1]; exact lk _ _ _ e2
      refine ⟨lv, lw, ?_⟩
      rw [hgv _ _ lv lw]
      exact call_post (E := fun _ _ _ => False) S2 (st1.trans st2) (f1.trans f2) (rvs_app st1 st2 f2 hvs hws) hdd post
end
section
variable {X : Cx}
/-! ## sorted -/
def insI (n : Int) : List Int → List Int
  | [] => [n]
  | m :: ms => if n ≤ m then n :: m :: ms else m :: insI n ms
def sortI : List Int → List Int
  | [] => []
  | n :: ns => insI n (sortI ns)
theorem insI_perm (n : Int) : ∀ ms : List Int, (insI n ms).Perm (n :: ms)
  | [] => .refl _
  | m :: ms => by
    unfold insI
    split
    · exact .refl _
    · exact ((insI_perm n ms).cons m).trans (.swap n m ms)
theorem insI_sorted (n : Int) : ∀ {ms : List Int}, ms.Pairwise (· ≤ ·) → (insI n ms).Pairwise (· ≤ ·)
  | [], _ => by simp [insI]
  | m :: ms, h => by
    have h' := List.pairwise_cons.mp h
    unfold insI
    split
    · rename_i hl
      exact List.pairwise_cons.mpr ⟨fun y hy => by
        rcases List.mem_cons.mp hy with rfl | hy
        · exact hl
        · exact Int.le_trans hl (h'.1 y hy), h⟩
    · rename_i hl
      refine List.pairwise_cons.mpr ⟨fun y hy => ?_, insI_sorted n h'.2⟩
      rcases List.mem_cons.mp ((insI_perm n ms).mem_iff.mp hy) with rfl | hy
      · omega
      · exact h'.1 y hy
theorem sortI_perm : ∀ ns : List Int, (sortI ns).Perm ns
  | [] => .refl _
  | n :: ns => (insI_perm n _).trans ((sortI_perm ns).cons n)
theorem sortI_sorted : ∀ ns : List Int, (sortI ns).Pairwise (· ≤ ·)
  | [] => .nil
  | n :: ns => insI_sorted n (sortI_sorted ns)
theorem sorted_uniq : ∀ {xs ys : List Int}, xs.Perm ys → xs.Pairwise (· ≤ ·) → ys.Pairwise (· ≤ ·) → xs = ys
  | [], ys, h, _, _ => h.nil_eq
  | x :: xs, [], h, _, _ => by cases h.length_eq
  | x :: xs, y :: ys, h, hx, hy => by
    have hx' := List.pairwise_cons.mp hx
    have hy' := List.pairwise_cons.mp hy
    have e : x = y := by
      have h1 : x ∈ y :: ys := h.mem_iff.mp (List.mem_cons_self)
      have h2 : y ∈ x :: xs := h.mem_iff.mpr (List.mem_cons_self)
      rcases List.mem_cons.mp h1 with h1 | h1
      · exact h1
      · rcases List.mem_cons.mp h2 with h2 | h2
        · exact h2.symm
        · exact Int.le_antisymm (hx'.1 y h2) (hy'.1 x h1)
    subst e
    rw [sorted_uniq (List.Perm.cons_inv h) hx'.2 hy'.2]
def bSortI : Rho → List RV → Rs RV := fun ρ rs => match rs with
  | [r] => match (view ρ r).litems.bind intsD with
    | some ns => .ok (.own (.l ((sortI ns).map .int))) ρ
    | none => .err
  | _ => .err
theorem b_sortI : BI X (.builtin "sorted") bSortI := by
  refine ⟨_, cr_sortedI, fun W Bs Hs B H σ ρs ρ Q rs vs S st fl hvs post => ?_⟩
  unfold bSortI at post
  split at post
  · rename_i r
    split at post
    · rename_i ns e
      obtain ⟨xs, h3, h4⟩ := Option.bind_eq_some_iff.mp e
      obtain ⟨v, _, rfl, h, rfl⟩ := hvs.1
      obtain ⟨a, vs, rfl, h5, h6⟩ := litems_rp h3 (h.view S)
      rw [intsD_rp h4 h6] at h5
      refine ⟨a, ns, rfl, h5, fun ns' q pm so hq => ?_⟩
      have : ns' = sortI ns := sorted_uniq (pm.trans (sortI_perm ns).symm) so (sortI_sorted ns)
      subst this
      exact post _ _ (S.new hq) (st.trans (Step.new S hq)) fl _ ⟨rfl, ⟨q, _, rfl, S.notNew hq, upd_same, ints_rp _⟩, rfl, q, rfl, st.dom q hq, S.notOwn hq⟩
    · exact post.elim
  · exact post.elim
end
end FP
namespace FP
open PySem L2
@[simp] theorem fSum_intsT {ns : List Int} : fSum [.tup (ns.map D.int)] = some (.int ns.sum) := by
  show ((some (ns.map D.int)).bind intsD).bind _ = _
  rw [Option.bind_some, intsD_ints]; rfl
@[simp] theorem fSum_takeT {ns : List Int} {k : Nat} : fSum [.tup ((ns.map D.int).take k)] = some (.int (ns.take k).sum) := by
  rw [← List.map_take]; exact fSum_intsT
end FP
namespace FP
open PySem L2
theorem flat_isFlat : ∀ {d : D} {v : V}, d.flat = some v → flatV v = true
  | .non, _, e => by cases e; rfl
  | .bl _, _, e => by cases e; rfl
  | .int _, _, e => by cases e; rfl
  | .str _, _, e => by cases e; rfl
  | .tup _, _, e => by cases e
  | .lst _, _, e => by cases e
  | .frz _, _, e => by cases e
  | .ins _ _, _, e => by cases e
  | .dct _, _, e => by cases e
  | .exn _ _ _ _, _, e => by cases e
theorem flats_allFlat : ∀ {ds : List D} {vs : List V}, flats ds = some vs → vs.all flatV = true
  | [], _, e => by cases e; rfl
  | d :: ds, _, e => by
    unfold flats at e
    split at e
    · rename_i v vs e1 e2
      cases e
      rw [List.all_cons, flat_isFlat e1, flats_allFlat e2]; rfl
    · cases e
section
variable {X : Cx} {W : WX} {pos cpos apos : Pos} {o e : Expr} {A Bf : Rho → Rs RV}
/-! ## xs.index(y) of flat items -/
def eIndex (a b : Rho → Rs RV) : Rho → Rs RV := fun ρ => (a ρ).bind fun x ρ1 => match (view ρ1 x).litems with
  | some _ => (b ρ1).bind fun y ρ2 => match (view ρ2 x).litems.bind flats, (view ρ2 y).flat with
    | some vs, some w => match vs.findIdx? (fun z => eqV z w) with
      | some j => .ok (.d (.int (j : Nat))) ρ2
      | none => .err
    | _, _ => .err
  | none => .err
theorem fe_index (ho : FE X W o A) (h : FE X W e Bf) (hbase : attributeBase o "index" X.env (eval o X.env) = eval o X.env := by rfl)
    (hfew : ((backTo cpos (starEach [e] X.env)).all (fun x => !x.1) && (backToKw cpos (keywordEach [] X.env)).all (fun x => x.1.isSome)
      && decide (([e] : List Expr).length + ([] : List Keyword).length + (if ([] : List Keyword).isEmpty then 0 else 1) < 30)) = true := by rfl)
    (hline : (apos.endLine == cpos.line) = true := by rfl) (hs : starEach [e] X.env = (false, eval e X.env) :: starEach [] X.env := by rfl) (hplain : (backTo cpos (starEach [] X.env)).any (·.1) = false := by rfl) :
    FE X W (.Call (.Attribute o "index" apos) [e] [] cpos) (eIndex A Bf) := by
  obtain ⟨ta, pa, oa⟩ := ho.ex
  obtain ⟨tb, pb, ob⟩ := h.ex
  refine ⟨_, pe_bm PySem.F.plainAttrs_list PySem.F.slot_list_index PySem.F.type_list_index mt_index pa (pa_cons pb pa_nil hs) hbase hfew hline hs hplain, fun B H σ ρ Q S post => ?_⟩
  refine oa B H σ ρ _ S (post.bind0 fun x ρ1 B1 H1 S1 st1 f1 post1 v hv => ?_)
  split at post1
  · rename_i xs0 e0
    obtain ⟨a, us, rfl, hq, _⟩ := litems_rp e0 (hv.view S1)
    refine ⟨.inl ⟨rfl, us, hq⟩, ?_⟩
    refine ob B1 H1 σ ρ1 _ S1 (post1.bind st1 f1 fun y ρ2 B2 H2 S2 st2 f2 post2 w hw => ?_)
    split at post2
    · rename_i vs w' e1 e2
      split at post2
      · rename_i j ej
        obtain ⟨ds, e3, e4⟩ := Option.bind_eq_some_iff.mp e1
        obtain ⟨a', us', e5, hq', r'⟩ := litems_rp e3 ((hv.later st2 f2).view S2)
        cases e5
        have e6 := flats_rp e4 r'
        subst e6
        have e7 : w = w' := (D.flat_rp e2).mp (hw.view S2)
        subst e7
        obtain ⟨hj1, hj2, hj3⟩ := List.findIdx?_eq_some_iff_getElem.mp ej
        exact ⟨a, us', w, j, us'[j], rfl, rfl, hq', flat_isFlat e2, flats_allFlat e4, List.getElem?_eq_getElem hj1, hj2, fun m z hm hz => by
          have hml := (List.getElem?_eq_some_iff.mp hz).1
          have := hj3 m hm
          rw [List.getElem?_eq_getElem hml] at hz
          cases hz
          simpa using this, post2 _ _ S2 (st1.trans st2) (f1.trans f2) _ rfl⟩
      · exact post2.elim
    · exact post2.elim
  · exact post1.elim
theorem eIndex_ev {a b : Rho → Rs RV} {ρ : Rho} : eIndex a b ρ = (a ρ).bind fun x ρ1 => match (view ρ1 x).litems with
  | some _ => (b ρ1).bind fun y ρ2 => match (view ρ2 x).litems.bind flats, (view ρ2 y).flat with
    | some vs, some w => match vs.findIdx? (fun z => eqV z w) with
      | some j => .ok (.d (.int (j : Nat))) ρ2
      | none => .err
    | _, _ => .err
  | none => .err := of_rfl rfl
end
end FP
namespace FP
open PySem L2
section
variable {X : Cx}
/-! ## math.lcm -/
theorem cr_lcm : CallR X (.builtin "math.lcm") (fun vs H Q => ∃ a b : Int, vs = [V.int a, V.int b] ∧ a.natAbs < 2 ^ 64 ∧ b.natAbs < 2 ^ 64 ∧ Q (.int ((a.natAbs.lcm b.natAbs : Nat) : Int)) H) := by
  intro pins s σ H vs us Q I r h
  obtain ⟨a, b, rfl, h1, h2, q⟩ := h
  obtain ⟨t, u, rfl⟩ := Vals.int2 r
  exact PySem.W.mc_lcm h1 h2 fun _ => ⟨.int _, H, I.tok _, ⟨_, rfl⟩, q⟩
def fLcm : List D → Option D
  | [.int a, .int b] => if a.natAbs < 2 ^ 64 ∧ b.natAbs < 2 ^ 64 then some (.int ((a.natAbs.lcm b.natAbs : Nat) : Int)) else none
  | _ => none
theorem b_lcm : BI X (.builtin "math.lcm") (bFlat fLcm) := bi_flat cr_lcm fun H vs ds d Q r e k => by
  unfold fLcm at e
  split at e
  · split at e
    · rename_i hl
      cases e
      obtain ⟨v, _, rfl, h, w, _, rfl, h', rfl⟩ := r
      cases rp_int h
      cases rp_int h'
      exact ⟨_, _, rfl, hl.1, hl.2, k _ fun _ => rfl⟩
    · cases e
  · cases e
/-! ## A module's tuple of ints -/
variable {W : WX} {pos : Pos}
theorem rpl_ints {K : PySem.W.Frag} {B : Hp} : ∀ {ns : List Int}, RpL K B (ns.map .int) (ns.map .int)
  | [] => rfl
  | n :: ns => ⟨.int n, ns.map .int, rfl, rfl, rpl_ints⟩
theorem rp_ctup {K : PySem.W.Frag} {a : Addr} {od : Option Addr} {n : Nat} {sl : Array (Option Value)} {ns : List Int} {us : List Value} (h : K.lookup a = some ⟨.type "tuple", od, .seq us.toArray n, sl⟩) (hv : Vals (ns.map .int) us) (hl : us.length ≤ 1000) (B : Hp) : Rp K B (.tup (ns.map .int)) (.ref a) :=
  ⟨a, ns.map .int, rfl, .inr ⟨_, us.toArray, n, h, rfl, rfl, line_le (by simpa using Nat.le_trans hl (by decide)), by simpa using hv⟩, rpl_ints⟩
theorem fe_gtup {x : Str} {d : D} (hg : Gl X x) (hm : ∃ a, X.mg x = some (.ref a) ∧ ∀ B, Rp X.K B d (.ref a)) (hd : (x == ("__debug__" : Str)) = false := by decide) : FE X W (.Name x pos) (eC d) := by
  obtain ⟨a, h, r⟩ := hm
  exact fe_glob (v := .ref a) hg h rfl r hd
/-! ## f-strings -/
variable {a : Expr} {A : Rho → Rs RV}
def eFmt (A : Rho → Rs RV) : Rho → Rs RV := fun ρ => (A ρ).bind fun x ρ1 => match view ρ1 x with
  | .str y => if y.length ≤ 100000 then .ok (.d (.str y)) ρ1 else .err
  | .int i => if i.natAbs < BIG then .ok (.d (.str (toString i))) ρ1 else .err
  | _ => .err
theorem fe_fmt (ha : FE X W a A) : FE X W (.FormattedValue a (-1) none pos) (eFmt A) := by
  obtain ⟨ta, pa, oa⟩ := ha.ex
  refine ⟨_, pe_fmt pa, fun B H σ ρ Q S post => ?_⟩
  refine oa B H σ ρ _ S (post.bind0 fun x ρ1 B1 H1 S1 st1 f1 post1 v hv => ?_)
  have hw := hv.view S1
  split at post1
  · rename_i y e
    rw [e] at hw; cases rp_str hw
    split at post1
    · rename_i hl
      exact .inl ⟨_, rfl, line_le hl, post1 _ _ S1 st1 f1 _ rfl⟩
    · exact post1.elim
  · rename_i i e
    rw [e] at hw; cases rp_int hw
    split at post1
    · rename_i hl
      exact .inr ⟨_, rfl, log2_big hl, post1 _ _ S1 st1 f1 _ rfl⟩
    · exact post1.elim
  · exact post1.elim
def eJs : List (Rho → Rs RV) → Str → Rho → Rs RV
  | [], acc, ρ => .ok (.d (.str acc)) ρ
  | a :: as, acc, ρ => (a ρ).bind fun x ρ1 => match view ρ1 x with
    | .str y => if (acc ++ y).length ≤ 100000 then eJs as (acc ++ y) ρ1 else .err
    | _ => .err
inductive FJ (X : Cx) (W : WX) : List Expr → List (Rho → Rs RV) → Prop where
  | nil : FJ X W [] []
  | cons {e : Expr} {A : Rho → Rs RV} {es : List Expr} {As : List (Rho → Rs RV)} (h : FE X W e A) (r : FJ X W es As) : FJ X W (e :: es) (A :: As)
theorem FJ.ex {es : List Expr} {As : List (Rho → Rs RV)} (h : FJ X W es As) : ∃ ts, PJ X es ts ∧ ∀ acc B0 H0 ρ0 B H σ ρ (Q : VK), SR X.K B H σ ρ → Step B0 H0 σ ρ0 B H σ ρ → Fills ρ0 ρ → Post X.K W B0 H0 σ ρ0 (fun B' H' ρ' r => ∀ v, RVr X.K H0 B' H' σ ρ' r v → Q v H') (eJs As acc ρ) → tJs ts acc σ H (fun out H1 => Q (.str out) H1) := by
  induction h with
  | nil => exact ⟨[], .nil, fun acc B0 H0 ρ0 B H σ ρ Q S st fl post => post B H S st fl _ rfl⟩
  | @cons e A es As he r ih =>
    obtain ⟨ts, pj, oj⟩ := ih
    obtain ⟨t, pt, ot⟩ := he.ex
    refine ⟨t :: ts, .cons pt pj, fun acc B0 H0 ρ0 B H σ ρ Q S st fl post => ?_⟩
    refine ot B H σ ρ _ S (post.bind st fl fun x ρ1 B1 H1 S1 st1 f1 post1 v hv => ?_)
    have hw := hv.view S1
    split at post1
    · rename_i y e
      rw [e] at hw; cases rp_str hw
      split at post1
      · rename_i hl
        exact ⟨_, rfl, line_le hl, oj _ _ _ _ B1 H1 σ ρ1 Q S1 (st.trans st1) (fl.trans f1) post1⟩
      · exact post1.elim
    · exact post1.elim
theorem fe_joined {v1 v2 : Expr} {rest : List Expr} {As : List (Rho → Rs RV)} (h : FJ X W (v1 :: v2 :: rest) As) : FE X W (.JoinedStr (v1 :: v2 :: rest) pos) (eJs As Str.empty) := by
  obtain ⟨ts, pj, oj⟩ := h.ex
  exact ⟨_, pe_joined pj, fun B H σ ρ Q S post => oj _ B H ρ B H σ ρ Q S Step.refl Fills.refl post⟩
/-! ## Dicts with keys of ints and texts -/
def valD : List (Key × D) → Key → Option D
  | [], _ => none
  | (n, d) :: r, k => if n = k then some d else valD r k
def dputD (kvs : List (Key × D)) (k : Key) (d : D) : List (Key × D) := if (valD kvs k).isSome = true then kvs.map (fun kv => if kv.1 = k then (kv.1, d) else kv) else kvs ++ [(k, d)]
def keyD : D → Option Key
  | .int i => some (.inl i)
  | .str s => some (.inr s)
  | _ => none
theorem keyD_rp {K : PySem.W.Frag} {B : Hp} {d : D} {v : V} {k : Key} (e : keyD d = some k) (h : Rp K B d v) : v = kV k := by
  cases d with
  | int i => cases e; exact rp_int h
  | str s => cases e; exact rp_str h
  | _ => cases e
theorem RpK.val {K : PySem.W.Frag} {B : Hp} : ∀ {kvs : List (Key × D)} {vs : List (Key × V)}, RpK K B kvs vs → ∀ k, (valD kvs k).isSome = (valV vs k).isSome ∧ ∀ d, valD kvs k = some d → ∃ v, valV vs k = some v ∧ Rp K B d v
  | [], vs, h, k => by rw [show vs = [] from h]; exact ⟨rfl, fun d e => by cases e⟩
  | (n, d) :: r, _, ⟨v, ws, h1, h2, h3⟩, k => by
    subst h1
    unfold valD
    by_cases e : n = k
    · rw [if_pos e, valV_pos (p := (n, v)) e]
      exact ⟨rfl, fun d' e' => by cases e'; exact ⟨v, rfl, h2⟩⟩
    · rw [if_neg e, valV_neg (p := (n, v)) e]
      exact RpK.val h3 k
theorem RpK.repl {K : PySem.W.Frag} {B : Hp} {k : Key} {d : D} {v : V} (hv : Rp K B d v) : ∀ {kvs : List (Key × D)} {vs : List (Key × V)}, RpK K B kvs vs → RpK K B (kvs.map fun kv => if kv.1 = k then (kv.1, d) else kv) (vs.map fun kv => if kv.1 = k then (kv.1, v) else kv)
  | [], vs, h => by rw [show vs = [] from h]; rfl
  | (n, d') :: r, _, ⟨v', ws, h1, h2, h3⟩ => by
    subst h1
    rw [List.map_cons, List.map_cons]
    by_cases e : n = k
    · rw [if_pos e, if_pos e]; exact ⟨v, _, rfl, hv, RpK.repl hv h3⟩
    · rw [if_neg e, if_neg e]; exact ⟨v', _, rfl, h2, RpK.repl hv h3⟩
theorem RpK.snoc {K : PySem.W.Frag} {B : Hp} {k : Key} {d : D} {v : V} (hv : Rp K B d v) : ∀ {kvs : List (Key × D)} {vs : List (Key × V)}, RpK K B kvs vs → RpK K B (kvs ++ [(k, d)]) (vs ++ [(k, v)])
  | [], vs, h => by rw [show vs = [] from h]; exact ⟨v, [], rfl, hv, rfl⟩
  | (n, d') :: r, _, ⟨v', ws, h1, h2, h3⟩ => by
    subst h1
    exact ⟨v', _, rfl, h2, RpK.snoc hv h3⟩
theorem RpK.len {K : PySem.W.Frag} {B : Hp} : ∀ {kvs : List (Key × D)} {vs : List (Key × V)}, RpK K B kvs vs → vs.length = kvs.length
  | [], vs, h => by rw [show vs = [] from h]; rfl
  | (n, d') :: r, _, ⟨v', ws, h1, h2, h3⟩ => by
    subst h1
    rw [List.length_cons, List.length_cons, RpK.len h3]
theorem RpK.put {K : PySem.W.Frag} {B : Hp} {k : Key} {d : D} {v : V} {kvs : List (Key × D)} {vs : List (Key × V)} (h : RpK K B kvs vs) (hv : Rp K B d v) : RpK K B (dputD kvs k d) (putK vs k v) := by
  unfold dputD putK
  rw [valV_any, (h.val k).1]
  split
  · exact RpK.repl hv h
  · exact RpK.snoc hv h
def eD0 : Rho → Rs RV := fun ρ => .ok (.own (.k [])) ρ
theorem fe_d0 : FE X W (.Dict [] [] pos) eD0 :=
  ⟨_, pe_dnewK, fun B H σ ρ Q S post => fun r hr => post _ _ (S.new hr) (Step.new S hr) Fills.refl _ ⟨rfl, ⟨r, _, rfl, S.notNew hr, upd_same, rfl⟩, rfl, r, rfl, hr, S.notOwn hr⟩⟩
variable {ix o : Expr} {I O : Rho → Rs RV}
def tDin (I O : Rho → Rs RV) : Rho → Rs Bool := fun ρ => (I ρ).bind fun x ρ1 => (O ρ1).bind fun y ρ2 => match keyD (view ρ2 x), view ρ2 y with
  | some k, .dct kvs => .ok (valD kvs k).isSome ρ2
  | _, _ => .err
def tDnin (I O : Rho → Rs RV) : Rho → Rs Bool := fun ρ => (I ρ).bind fun x ρ1 => (O ρ1).bind fun y ρ2 => match keyD (view ρ2 x), view ρ2 y with
  | some k, .dct kvs => .ok (!(valD kvs k).isSome) ρ2
  | _, _ => .err
theorem ft_din (hu : X.A.units + 64 < cLine) (hi : FE X W ix I) (ho : FE X W o O) (hm : behindInMarks .In o = false := by rfl) : FT X W (.Compare ix [.In] [o] pos) (tDin I O) := by
  obtain ⟨ti, pi, oi⟩ := hi.ex
  obtain ⟨to, po, oo⟩ := ho.ex
  refine ⟨_, pt_cmp (pc_din (by omega) pi po) hm, fun B H σ ρ Q S post => ?_⟩
  refine oi B H σ ρ _ S (post.bind0 fun x ρ1 B1 H1 S1 st1 f1 post1 v hv => ?_)
  refine oo B1 H1 σ ρ1 _ S1 (post1.bind st1 f1 fun y ρ2 B2 H2 S2 st2 f2 post2 w hw => ?_)
  have gx := (hv.later st2 f2).view S2
  have gy := hw.view S2
  split at post2
  · rename_i k kvs e1 e2
    rw [e2] at gy
    obtain ⟨a, vs, rfl, h1, h2⟩ := gy
    refine ⟨a, valV vs k, rfl, by rw [keyD_rp e1 gx]; exact DGet.k h1, (valV vs k).isSome, rfl, ?_⟩
    rw [← (h2.val k).1]
    exact post2 _ _ S2 (st1.trans st2) (f1.trans f2)
  · exact post2.elim
theorem ft_dnin (hu : X.A.units + 64 < cLine) (hi : FE X W ix I) (ho : FE X W o O) (hm : behindInMarks .NotIn o = false := by rfl) : FT X W (.Compare ix [.NotIn] [o] pos) (tDnin I O) := by
  obtain ⟨ti, pi, oi⟩ := hi.ex
  obtain ⟨to, po, oo⟩ := ho.ex
  refine ⟨_, pt_cmp (pc_dnotin (by omega) pi po) hm, fun B H σ ρ Q S post => ?_⟩
  refine oi B H σ ρ _ S (post.bind0 fun x ρ1 B1 H1 S1 st1 f1 post1 v hv => ?_)
  refine oo B1 H1 σ ρ1 _ S1 (post1.bind st1 f1 fun y ρ2 B2 H2 S2 st2 f2 post2 w hw => ?_)
  have gx := (hv.later st2 f2).view S2
  have gy := hw.view S2
  split at post2
  · rename_i k kvs e1 e2
    rw [e2] at gy
    obtain ⟨a, vs, rfl, h1, h2⟩ := gy
    refine ⟨a, valV vs k, rfl, by rw [keyD_rp e1 gx]; exact DGet.k h1, !(valV vs k).isSome, rfl, ?_⟩
    rw [← (h2.val k).1]
    exact post2 _ _ S2 (st1.trans st2) (f1.trans f2)
  · exact post2.elim
def eDg (O I : Rho → Rs RV) : Rho → Rs RV := fun ρ => (O ρ).bind fun y ρ1 => (I ρ1).bind fun x ρ2 => match view ρ2 y, keyD (view ρ2 x) with
  | .dct kvs, some k => match valD kvs k with
    | some d => if d.flat.isSome = true then .ok (.d d) ρ2 else .err
    | none => .err
  | _, _ => .err
theorem fe_dget (hu : X.A.units + 64 < cLine) (ho : FE X W o O) (hi : FE X W ix I) (hs : NoSl ix) : FE X W (.Subscript o ix pos) (eDg O I) := by
  obtain ⟨ti, pi, oi⟩ := hi.ex
  obtain ⟨to, po, oo⟩ := ho.ex
  refine ⟨_, pe_dget (by omega) po pi hs, fun B H σ ρ Q S post => ?_⟩
  refine oo B H σ ρ _ S (post.bind0 fun y ρ1 B1 H1 S1 st1 f1 post1 w hw => ?_)
  refine oi B1 H1 σ ρ1 _ S1 (post1.bind st1 f1 fun x ρ2 B2 H2 S2 st2 f2 post2 v hv => ?_)
  have gy := (hw.later st2 f2).view S2
  have gx := hv.view S2
  split at post2
  · rename_i kvs k e1 e2
    rw [e1] at gy
    obtain ⟨a, vs, rfl, h1, h2⟩ := gy
    split at post2
    · rename_i d ed
      split at post2
      · rename_i hf
        obtain ⟨z, h3, h4⟩ := (h2.val k).2 d ed
        obtain ⟨z', hz⟩ := Option.isSome_iff_exists.mp hf
        refine ⟨a, z, rfl, by rw [keyD_rp e2 gx, ← h3]; exact DGet.k h1, post2 _ _ S2 (st1.trans st2) (f1.trans f2) z ((D.flat_rp hz).mpr ((D.flat_rp hz).mp h4))⟩
      · exact post2.elim
    · exact post2.elim
  · exact post2.elim
def sDp (i : Nat) (b a : Rho → Rs RV) : Rho → Out := fun ρ => (a ρ).thn fun r ρ1 => match (frz r ρ1)[i]? with
  | some (some (.k _)) => (b (frz r ρ1)).thn fun q ρ2 => match keyD (view ρ2 q), ρ2[i]? with
    | some k, some (some (.k kvs)) => if kvs.length < 100000 then .nx (ρ2.set i (some (.k (dputD kvs k (view ρ1 r))))) else .err
    | _, _ => .err
  | _ => .err
theorem fs_dput {e : Expr} {F : Rho → Rs RV} {i : Nat} {x : Str} {p1 p2 : Pos} (hu : X.A.units + 64 < cLine) (hN : X.N[i]? = some x) (hv : Vis X.env.scope x) (h' : FE X W ix I) (h : FE X W e F)
    (hs : swapsWith e (some (.Subscript (.Name x p1) ix p2)) pos.line X.env = pure false := by rfl)
    (hd : (x == ("__debug__" : Str)) = false := by decide) (hcd : (x == ("__classdict__" : Str)) = false := by decide) :
    FS X W (.Assign [.Subscript (.Name x p1) ix p2] e pos) (sDp i I F) := by
  obtain ⟨t, p, o⟩ := h.ex
  obtain ⟨t', p', o'⟩ := h'.ex
  refine ⟨_, ps_dput (by omega) (pe_var hN hv hd hcd) p' p hs, fun B H σ ρ D S post => ?_⟩
  refine o B H σ ρ _ S (post.ahead fun r ρ1 B1 H1 S1 st1 f1 post1 v hv => ?_)
  obtain ⟨B2, x2, S2, st2, rp, _⟩ := take1 S1 st1 hv
  split at post1
  · rename_i xs0 e0
    obtain ⟨v0, hva, a, vs0, rfl, q1, q2, q3⟩ := S2.slot i _ e0
    refine ⟨.ref a, hva, ?_⟩
    refine o' B2 H1 σ _ _ S2 (post1.ahead' st2 fun q ρ2 B3 H3 S3 st3 f3 post3 w hw => ?_)
    split at post3
    · rename_i k kvs e1 e2
      have g := keyD_rp e1 (hw.view S3)
      subst g
      split at post3
      · rename_i hl
        obtain ⟨v', e3, a', vs, e4, e5, e6, e7⟩ := S3.slot i _ e2
        rw [hva] at e3; cases e3; cases e4
        refine ⟨a, _, rfl, DPut.k e6 (by rw [e7.len]; exact line_lt hl), ?_⟩
        obtain ⟨S4, st4⟩ := mutS (sv' := .k (dputD kvs k (view ρ1 r))) (o := .dK (putK vs k v)) S3 e2 rfl hva ⟨a, _, rfl, e5, upd_same, e7.put (Rp.up st3.bb rp)⟩ rfl
        exact post3 B3 _ σ S4 ((st2.trans st3).trans st4)
      · exact post3.elim
    · exact post3.elim
  · exact post1.elim
end
end FP
namespace FP
open PySem L2
/-! ## Exceptions: raise, defs that raise, their calls, try .. except C as e -/
def sRaise (x : Exn) : Rho → Out := fun ρ => .exc x ρ
section
variable {X : Cx} {W : WX} {pos pos' p p2 apos : Pos} {x m : Str} {j : Nat} {C : Addr} {bmB : List Value} {Bn newId initId : String} {e : Expr} {es : List Expr} {As : Rho → Rs (List RV)}
theorem fs_raise {nm : Str} (hc : X.calm = true) (tk : Takes X W) (F : ExcBaseFacts Bn newId initId bmB) (q : PySem.W.excIn X.K C bmB newId = true) (gC : X.mg x = some (.ref C)) (kC : PySem.W.keepIn X.K (.ref C) = true) (h1 : PySem.W.subIn X.K (.ref C) (.type "BaseException") = some true) (h2 : PySem.W.typeIn X.K (.ref C) = some (.type "type")) (hg : Gl X x)
    (hdb : (x == ("__debug__" : Str)) = false := by decide) : FS X W (.Raise (some (.Call (.Name x p) [.Constant (.str m) j p2] [] pos)) none pos') (sRaise ⟨.ref C, [], nm⟩) :=
  ⟨_, ps_raise hc tk (pmk_own F q gC kC (raises_own h1 h2) hg hdb), fun B H σ ρ D S post => post B H σ (.ref C) none S Step.refl ⟨rfl, rfl⟩⟩
/-- a call of a def that may raise -/
def ofRetX (x : Ret) (rs : List RV) (ρ : Rho) : Rs RV := match x with
  | .ok sv => .ok (rvOf sv) (if sv.lf then ρ else frzs rs ρ)
  | .exc x => .exc x (frzs rs ρ)
  | .err => .err
def eCallX (fn : List D → Ret) (as : Rho → Rs (List RV)) : Rho → Rs RV := fun ρ => (as ρ).bind fun rs ρ1 => ofRetX (fn (rs.map (view ρ1) ++ [])) rs ρ1
end
section
variable {K : PySem.W.Frag} {B H : Hp} {σ : St} {ρ : Rho} {W : WX}
theorem call_postX {Bs Hs : Hp} {ρs : Rho} {Q : VK} {rs : List RV} {vs dvs : List V} {dds : List D} {fn : List D → Ret} (S : SR K B H σ ρ) (st : Step Bs Hs σ ρs B H σ ρ) (fl : Fills ρs ρ) (hvs : RVs K Hs B H σ ρ rs vs) (hd : ∀ B, RpL K B dds dvs)
    (post : Post K W Bs Hs σ ρs (fun B' H' ρ' r => ∀ v, RVr K Hs B' H' σ ρ' r v → Q v H') (ofRetX (fn (rs.map (view ρ) ++ dds)) rs ρ)) : spF K fn (vs ++ dvs) H Q (WE W σ) := by
  cases ef : fn (rs.map (view ρ) ++ dds) with
  | err => rw [ef] at post; exact post.elim
  | ok sv => exact call_post (W := W) S st fl hvs hd (by rw [ef] at post ⊢; exact post)
  | exc x =>
    obtain ⟨B2, x2, S2, st2, f2, rp, new2, own2⟩ := takes S st hvs.1 hvs.2
    refine ⟨B2, _, S2.ex, rp.append (hd B2), ?_⟩
    rw [ef] at post ⊢
    exact fun B' H' cls d kp xr => post B' H' cls d (S2.kept kp) (st2.trans (Step.kept kp)) (xr.h0 st2.dom)
end
section
variable {X : Cx} {W : WX} {pos p : Pos} {x : Str} {e : Expr} {es : List Expr} {As : Rho → Rs (List RV)} {k : Nat} {f : Addr} {fd : FuncData} {ps : List Str} {fn : List D → Ret}
theorem fe_callX (Fn : FnOk X.prog X.w X.K X.mg X.base (L2.CX X.prog X.w) k f fd ps (spF X.K fn)) (hr : Room k X.A) (hg : Gl X x) (hm : X.mg x = some (.ref f)) (hk : PySem.W.keepIn X.K (.ref f) = true) (hb : Binds X.K fd ps []) (tk : Takes X W)
    (ha : FA X W (e :: es) As) (hdb : (x == ("__debug__" : Str)) = false := by decide) (he : starEach (e :: es) X.env = (false, eval e X.env) :: starEach es X.env := by rfl) (hpl : (backTo pos (starEach es X.env)).any (·.1) = false := by rfl) :
    FE X W (.Call (.Name x p) (e :: es) [] pos) (eCallX fn As) := by
  obtain ⟨t, pa, oa⟩ := ha.ex
  refine ⟨_, pe_callS Fn hr hg hm hk hb (E := WE W) (fun σ => passAt tk σ) pa hdb he hpl, fun B H σ ρ Q S post => ?_⟩
  refine oa B H σ ρ _ S (post.bind0 fun rs ρ1 B1 H1 S1 st1 f1 post1 vs hvs => ?_)
  have := call_postX (dvs := []) (dds := []) (Q := Q) S1 st1 f1 hvs (fun _ => rfl) post1
  rwa [List.append_nil] at this
end
section
variable {P : Program} {w : World} {K : PySem.W.Frag} {mg : Str → Option Value} {base : Heap}
/-- THE RULE of a def that may raise -/
theorem fn_okX {x qual : Str} {st : Stmt} {f : Addr} {fd : FuncData} {N ps : List Str} {k : Nat} {G : Rho → Out} (F : Fun K x qual st f fd) (S : FnScope N ps (defScope st))
    (hbody : ∀ (cdv : Value) (A : Around) (outer : List PySem.Env) (s : Shared) (H : Hp) (E : XK), Room k (A.deeper (PyProof.Rows.envOfC qual (defScope st) s.heap.objs.size f cdv)) →
      Takes (cxOf (L2.CX P w) P w K mg base N qual (defScope st) f cdv A outer s H E) (fun cls d _ H' => E cls d H') →
      FB (cxOf (L2.CX P w) P w K mg base N qual (defScope st) f cdv A outer s H E) (fun cls d _ H' => E cls d H') (defBody st) G) :
    FnOk P w K mg base (L2.CX P w) (k + 1) f fd ps (spF K (runF N.length ps.length G)) := by
  refine F.okX S (fun vs H Q E h => ?_) (fun cdv A outer s H vs Q E hr h => ?_)
  · obtain ⟨B, ds, _, r, post⟩ := h
    unfold runF at post
    split at post
    · rename_i hl; rw [r.length, hl]
    · exact post.elim
  · obtain ⟨B, ds, ex, r, post⟩ := h
    obtain ⟨t, p, o⟩ := (hbody cdv A outer s H E hr (takes_of rfl rfl rfl rfl)).ex
    refine ⟨t, p, ?_⟩
    unfold runF at post
    split at post
    · refine o B H (L2.start N vs) (startR N.length ds) _ (start_sr ex r) ?_
      cases eg : G (startR N.length ds) with
      | err => rw [eg] at post; exact post.elim
      | bk _ => rw [eg] at post; exact post.elim
      | ct _ => rw [eg] at post; exact post.elim
      | exc x ρ' =>
        rw [eg] at post
        exact fun B' H' σ' cls d S' st' xr => post B' H' cls d (step_kept st' S'.ex) xr
      | nx ρ' =>
        rw [eg] at post
        exact fun B' H' σ' S' st' => post B' H' .non (step_kept st' S'.ex) rfl (fun z => by cases z)
      | rt r ρ' =>
        rw [eg] at post
        intro B' H' σ' v S' st' hv
        have kp := step_kept st' S'.ex
        cases r with
        | d d => exact post B' H' v kp hv (fun z => by cases z)
        | own sv =>
          obtain ⟨h1, h2, nt, a, h3, h4, _⟩ := hv
          exact post B' H' v kp h2 fun _ => ⟨nt, a, h3, h4⟩
        | slot i =>
          obtain ⟨h1, sv, h2, nt⟩ := hv
          obtain ⟨v', h3, h4⟩ := S'.slot i sv h2
          rw [h1] at h3; cases h3
          have es : svOf ρ' (.slot i) = sv := by simp only [svOf, h2]
          replace post : RetPost K B H Q E (.ok (svOf ρ' (.slot i))) := post
          rw [es] at post
          refine post B' H' v kp h4 fun ow => ?_
          obtain ⟨a, u, q1, q2, q3⟩ := h4.cell ow
          refine ⟨nt, a, q1, ?_⟩
          cases e : H a with
          | none => rfl
          | some u' =>
            cases eB : B a with
            | none =>
              obtain ⟨_, _, g3⟩ := st'.fr a u' e eB start_own
              exact absurd ⟨i, sv, h2, ow, by rw [h1, q1]⟩ g3
            | some u2 =>
              exact absurd q3 (st'.bb a u2 eB).ne
    · exact post.elim
end
/-! ### the suite: what is asked of the caught exception -/
section
variable {X : Cx} {a D : Addr} {oe : Obj} {pn : List (Addr × Obj)} {i : Nat} {n cn : Str} {p p1 p2 pos : Pos} {e e1 e2 : Expr} {es : List Expr} {b b1 b2 : Bool}
def tXB (a : Addr) (i : Nat) (b : Bool) : TE := fun σ H Q => σ[i]? = some (some (.ref a)) ∧ Q (.bl b) H
/-- a test of the exception at slot i says b -/
def XB (X : Cx) (D : Addr) (i : Nat) (e : Expr) (b : Bool) : Prop := ∀ (a : Addr) (oe : Obj) (pn : List (Addr × Obj)), Zc (.ref D) none oe → (∃ vs, oe.data = .fields vs) → PE (X.suite a ((a, oe) :: pn)) e (tXB a i b)
theorem pe_weak {Y : Cx} {t t' : TE} (h : PE Y e t) (k : ∀ σ H Q, t' σ H Q → t σ H Q) : PE Y e t' := ⟨fun pins s σ H Q I q => h.run pins s σ H Q I (k _ _ _ q)⟩
theorem xb_is {c : V} {cv : Value} (C : ExcC X.K D) (hN : X.N[i]? = some n) (hv : Vis X.env.scope n) (hg : Gl X "isinstance") (hm : X.mg "isinstance" = none) (hc : ∀ (a : Addr) (oe : Obj) (pn : List (Addr × Obj)), PE (X.suite a ((a, oe) :: pn)) (.Name cn p2) (tC c)) (hcv : ∀ u, RelV c u → u = cv) (hb : PySem.W.kitOne X.K (.ref D) cv = some b)
    (hs : starEach [.Name n p1, .Name cn p2] X.env = (false, eval (.Name n p1) X.env) :: starEach [.Name cn p2] X.env := by rfl) (hs2 : starEach [.Name cn p2] X.env = (false, eval (.Name cn p2) X.env) :: starEach [] X.env := by rfl) (hpl : (backTo pos (starEach [.Name cn p2] X.env)).any (·.1) = false := by rfl)
    (hd : (n == ("__debug__" : Str)) = false := by decide) (hcd : (n == ("__classdict__" : Str)) = false := by decide) :
    XB X D i (.Call (.Name "isinstance" p) [.Name n p1, .Name cn p2] [] pos) b := fun a oe pn hz hf =>
  pe_weak (pe_callB (X := X.suite a ((a, oe) :: pn)) (call_isE C hz hf) hg hm (by decide +kernel) (pa_cons (pe_var (X := X.suite a ((a, oe) :: pn)) hN hv hd hcd) (pa_cons (hc a oe pn) pa_nil hs2) hs) (by decide) (by decide) hs hpl) fun σ H Q q => ⟨.ref a, q.1, c, cv, b, rfl, hcv, hb, q.2⟩
theorem xb_one {op : BoolOp} (h : XB X D i e b) : XB X D i (.BoolOp op [e] pos) b := fun a oe pn hz hf => pe_one (h a oe pn hz hf)
theorem xb_and (h1 : XB X D i e1 b1) (h2 : XB X D i (.BoolOp .And (e2 :: es) pos) b2) : XB X D i (.BoolOp .And (e1 :: e2 :: es) pos) (b1 && b2) := fun a oe pn hz hf =>
  pe_weak (pe_and (h1 a oe pn hz hf) (h2 a oe pn hz hf)) fun σ H Q q => ⟨q.1, b1, rfl, by
    cases b1 with
    | true => exact ⟨q.1, q.2⟩
    | false => exact q.2⟩
theorem xb_not (h : XB X D i e b) : XB X D i (.UnaryOp .Not e pos) (!b) := fun a oe pn hz hf =>
  pe_weak (pe_not (h a oe pn hz hf)) fun σ H Q q => ⟨q.1, b, rfl, q.2⟩
end
/-! ### try .. except C as e: return a test of e -/
def sTryIs (D : Addr) (i : Nat) (b : Bool) (G : Rho → Out) : Rho → Out := fun ρ => match G ρ with
  | .exc x ρ1 => match x.cls, x.fs with
    | .ref a, [] => if a = D ∧ i < ρ1.length then .rt (.d (.bl b)) ρ1 else .err
    | _, _ => .err
  | o => o
section
variable {X : Cx} {W : WX} {D : Addr} {c : Value} {i : Nat} {x n : Str} {np pos pos' rpos : Pos} {ret : Expr} {body : List Stmt} {G : Rho → Out} {b : Bool}
theorem fs_tryis (hs : X.stack = X.env :: X.outer) (hf : X.env.frame = some X.env.locals) (hN : X.N.Nodup) (hi : X.N[i]? = some n) (hln : X.env.kindOf n = some .local) (hc : Names X x c) (tk : Takes X W) (hx : PySem.W.exmOne X.K (.ref D) c = some true)
    (hb : ∀ (W' : WX) (pn : List (Addr × Obj)) (xe : Value → Shared → Prop), Takes (X.tr pn xe) W' → FB (X.tr pn xe) W' body G) (hsu : XB X D i ret b) :
    FS X W (.Try body [.ExceptHandler (some (.Name x np)) (some n) [.Return (some ret) rpos] pos'] [] [] pos) (sTryIs D i b G) := by
  refine ⟨_, ps_try_as (tb := fun W' D' σ H => ∃ B ρ, SR X.K B H σ ρ ∧ PostS X.K W' B H σ ρ D' (G ρ)) (ts := fun a cls d D' σ H => (cls = .ref D ∧ d = none) ∧ tRet (tXB a i b) D' σ H) hs hf hN hi hln hc tk (fun W' pn xe tk' _ => ?_) (fun a oe cls d pn hz hf' => ?_), fun B H σ ρ D' S post => ?_⟩
  · obtain ⟨t, p, o⟩ := (hb W' pn xe tk').ex
    exact ⟨fun pins s σ H D' I h => by
      obtain ⟨B, ρ, S, post⟩ := h
      exact p.run pins s σ H D' I (o B H σ ρ D' S post)⟩
  · exact ⟨fun pins s σ H D' I h => by
      obtain ⟨⟨rfl, rfl⟩, h'⟩ := h
      exact (pss_one (ps_ret (hsu a oe pn hz hf'))).run pins s σ H D' I h'⟩
  · refine ⟨B, ρ, S, ?_⟩
    unfold sTryIs at post
    cases eG : G ρ with
    | err => rw [eG] at post; exact post
    | nx ρ1 => rw [eG] at post; exact post
    | bk ρ1 => rw [eG] at post; exact post
    | ct ρ1 => rw [eG] at post; exact post
    | rt r ρ1 => rw [eG] at post; exact post
    | exc x ρ1 =>
      rw [eG] at post
      obtain ⟨xc, xf⟩ := x
      cases xf with
      | cons _ _ => cases xc <;> exact False.elim post
      | nil =>
        cases xc with
        | ref a =>
          replace post : PostS X.K W B H σ ρ D' (if a = D ∧ i < ρ1.length then .rt (.d (.bl b)) ρ1 else .err) := post
          by_cases hh : a = D ∧ i < ρ1.length
          · rw [if_pos hh] at post
            obtain ⟨rfl, hl⟩ := hh
            intro B' H' σ' cls d S' st' xr
            obtain ⟨ec, xd⟩ := xr
            have ec' : cls = .ref a := ec
            subst ec'
            cases d with
            | some a' => exact absurd rfl xd.1
            | none =>
              refine ⟨true, hx, fun _ a' _ => ⟨⟨rfl, rfl⟩, ?_, post B' H' σ' (.bl b) S' st' rfl⟩, fun z => by cases z⟩
              rw [List.getElem?_set_self (by rw [S'.len]; exact hl)]
          · rw [if_neg hh] at post; exact post.elim
        | _ => exact False.elim post
end
/-! ### what isinstance asks of the classes -/
section
open PySem.W
theorem kit_ref {K : Frag} {D A : Addr} {b : Bool} (hd : hasDictIn K A = true) (ty : typeIn K (.ref A) = some (.type "type")) (sb : subIn K (.ref D) (.ref A) = some b) (ne : b = false → (Value.ref D == Value.ref A) = false) : kitOne K (.ref D) (.ref A) = some b := by
  obtain ⟨cd, hc, _⟩ := any_some hd
  have e2 : ((clsIn K A).isSome && typeIn K (.ref A) == some (.type "type")) = true := by rw [hc, ty] <;> rfl
  have e3 : kitCls K (.ref D) (.ref A) = some b := by
    show (if ((clsIn K A).isSome && typeIn K (.ref A) == some (.type "type")) = true then subIn K (.ref D) (.ref A) else none) = some b
    rw [if_pos e2]; exact sb
  unfold kitOne
  cases b with
  | true => rw [e3]; split <;> rfl
  | false => rw [ne rfl, if_neg (by decide)]; exact e3
theorem kit_type {K : Frag} {D : Addr} {T : String} (hm : kitMeta T = true) (sb : subIn K (.ref D) (.type T) = some true) : kitOne K (.ref D) (.type T) = some true := by
  have e3 : kitCls K (.ref D) (.type T) = some true := by
    show (if kitMeta T = true then subIn K (.ref D) (.type T) else none) = some true
    rw [if_pos hm]; exact sb
  unfold kitOne
  rw [e3]; split <;> rfl
end
/-! ### calls by keywords of defs that may raise -/
section
variable {X : Cx} {W : WX} {CX : CXT} {k n : Nat} {f : Addr} {fd : FuncData} {ps ks : List Str} {sp : Sp} {x : Str} {p pos : Pos} {e : Expr} {es : List Expr} {kws : List Keyword} {t tk : TA} {g : List Value → List Value → List Value} {gV : List V → List V → List V}
def tCallNS (n m : Nat) (sp : Sp) (gV : List V → List V → List V) (E : St → XK) (t tk : TA) : TE := fun σ H Q => t σ H fun vs H1 => tk σ H1 fun zs H2 => (vs.length = n ∧ zs.length = m) ∧ sp (gV vs zs) H2 Q (E σ)
theorem pe_callNS {E : St → XK} (Fn : FnOk X.prog X.w X.K X.mg X.base CX k f fd ps sp) (hr : Room k X.A) (hg : Gl X x) (hm : X.mg x = some (.ref f)) (hkp : PySem.W.keepIn X.K (.ref f) = true) (hb : KBn X.K fd ps n ks g gV) (hx : ∀ σ, PassesAt CX X σ (E σ)) (pa : PA X (e :: es) t) (pk : PK X kws tk)
    (hall : (backToKw pos (keywordEach kws X.env)).all (·.1.isSome) = true) (hks : (backToKw pos (keywordEach kws X.env)).filterMap (·.1) = ks) (hdb : (x == ("__debug__" : Str)) = false) (he : starEach (e :: es) X.env = (false, eval e X.env) :: starEach es X.env)
    (hpl : ((backTo pos (starEach (e :: es) X.env)).any (·.1) || (backToKw pos (keywordEach kws X.env)).any (·.1.isNone)) = false) : PE X (.Call (.Name x p) (e :: es) kws pos) (tCallNS n ks.length sp gV E t tk) := by
  refine ⟨fun pins s σ H Q I h => wpAny_Call_Name_kw (ld_glob I hg hm ?_ hdb)⟩
  refine PySem.W.callWith_KW (h₀ := X.base) I.ok.mod.kin hkp hall (thn (pa.run pos pins s σ H _ I h) fun us s1 hu => ?_) hpl he
  obtain ⟨vs, H1, I1, rv, q1⟩ := hu
  refine thn (pk.run pos pins s1 σ H1 _ I1 q1) fun ws s2 hw => ?_
  obtain ⟨zs, H2, I2, rz, ⟨l1, l2⟩, q2⟩ := hw
  refine ⟨I2.kIn, ?_⟩
  rw [hks]
  have bind := hb.to s2 us ws I2.kIn (by rw [← rv.length]; exact l1) (by rw [← rz.length]; exact l2)
  have ran := Fn.run X.A X.stack s2 H2 ⟨us, ks.zip ws⟩ (g us ws) (gV vs zs) Q (E σ) hr I2.env0 bind (hb.rel rv rz) q2
  refine wpAny_call (codeAny_mono ran fun r s3 hr3 => ?_)
  match r, hr3 with
  | .error u, hr3 => exact hx σ pins H2 s2 u s3 I2 hr3
  | .ok (.ret u), hr3 => exact I2.after hr3
  | .ok .next, hr3 => exact hr3.elim
  | .ok .brk, hr3 => exact hr3.elim
  | .ok .cont, hr3 => exact hr3.elim
end
section
variable {X : Cx} {W : WX} {p pos : Pos} {x : Str} {e : Expr} {es : List Expr} {kws : List Keyword} {As Ks : Rho → Rs (List RV)} {k : Nat} {f : Addr} {fd : FuncData} {ps ks : List Str} {fn : List D → Ret}
def eCallKX (fn : List D → Ret) (as ks : Rho → Rs (List RV)) : Rho → Rs RV := fun ρ => (as ρ).bind fun rs ρ1 => (ks ρ1).bind fun zs ρ2 => ofRetX (fn ((rs ++ zs).map (view ρ2) ++ [])) (rs ++ zs) ρ2
theorem fe_callKX {gf : List Value → List Value → List Value} {gV : List V → List V → List V} (Fn : FnOk X.prog X.w X.K X.mg X.base (L2.CX X.prog X.w) k f fd ps (spF X.K fn)) (hr : Room k X.A) (hg : Gl X x) (hm : X.mg x = some (.ref f)) (hkp : PySem.W.keepIn X.K (.ref f) = true) (hb : KBn X.K fd ps (e :: es).length ks gf gV) (tk : Takes X W)
    (hgv : ∀ (vs zs : List V), vs.length = (e :: es).length → zs.length = ks.length → gV vs zs = vs ++ zs ++ [])
    (ha : FA X W (e :: es) As) (hk : FK X W kws Ks) (la : ∀ ρ rs ρ', As ρ = .ok rs ρ' → rs.length = (e :: es).length) (lk : ∀ ρ rs ρ', Ks ρ = .ok rs ρ' → rs.length = ks.length)
    (hall : (backToKw pos (keywordEach kws X.env)).all (·.1.isSome) = true := by rfl) (hks : (backToKw pos (keywordEach kws X.env)).filterMap (·.1) = ks := by rfl) (hdb : (x == ("__debug__" : Str)) = false := by decide)
    (he : starEach (e :: es) X.env = (false, eval e X.env) :: starEach es X.env := by rfl) (hpl : ((backTo pos (starEach (e :: es) X.env)).any (·.1) || (backToKw pos (keywordEach kws X.env)).any (·.1.isNone)) = false := by rfl) :
    FE X W (.Call (.Name x p) (e :: es) kws pos) (eCallKX fn As Ks) := by
  obtain ⟨t, pa, oa⟩ := ha.ex
  obtain ⟨tk', pk, ok⟩ := hk.ex
  refine ⟨_, pe_callNS (E := WE W) Fn hr hg hm hkp hb (fun σ => passAt tk σ) pa pk hall hks hdb he hpl, fun B H σ ρ Q S post => ?_⟩
  unfold eCallKX at post
  cases e1 : As ρ with
  | err => rw [e1] at post; exact post.elim
  | exc y ρ1 => exact oa B H σ ρ _ S (by rw [e1] at post ⊢; exact post)
  | ok rs ρ1 =>
    rw [e1] at post
    refine oa B H σ ρ _ S ?_
    rw [e1]
    intro B1 H1 S1 st1 f1 vs hvs
    cases e2 : Ks ρ1 with
    | err => rw [bind_ok, e2] at post; exact post.elim
    | exc y ρ2 =>
      rw [bind_ok, e2] at post
      refine ok B1 H1 σ ρ1 _ S1 ?_
      rw [e2]
      exact fun B' H' cls d S' st' xr => post B' H' cls d S' (st1.trans st') (xr.h0 st1.dom)
    | ok zs ρ2 =>
      rw [bind_ok, e2] at post
      refine ok B1 H1 σ ρ1 _ S1 ?_
      rw [e2]
      intro B2 H2 S2 st2 f2 ws hws
      have lv : vs.length = (e :: es).length := by rw [rvl_len hvs.1]; exact la _ _ _ e1
      have lw : ws.length = ks.length := by rw [rvl_len hws.1]; exact lk _ _ _ e2
      refine ⟨⟨lv, lw⟩, ?_⟩
      rw [hgv _ _ lv lw]
      exact call_postX (dvs := []) (dds := []) S2 (st1.trans st2) (f1.trans f2) (rvs_app st1 st2 f2 hvs hws) (fun _ => rfl) post
end
/-! ### makers that may raise -/
inductive InitR where
  | err | ok (fs : Fs) | exc (x : Exn)
def spIX (K : PySem.W.Frag) (C : Addr) (fn : Addr → List D → InitR) : Sp := fun vs H Q E => ∃ B p dx ws ds, vs = .ref p :: ws ∧ Ex B H ∧ B p = none ∧ H p = some (.ins C dx []) ∧ RpL K B ds ws ∧
  match fn p ds with
  | .ok fs => ∀ B' H' dx' vs', KeptI B H p B' H' → H' p = some (.ins C dx' vs') → B' p = none → RpF K B' fs vs' → Q .non H'
  | .exc x => ∀ B' H' cls d, KeptI B H p B' H' → XR K H B' H' x cls d → E cls d H'
  | .err => False
def endX (p C : Addr) (ρ : Rho) : InitR := match endI p C ρ with
  | some fs => .ok fs
  | none => .err
def runIX (n k : Nat) (C : Addr) (G : Rho → Out) (p : Addr) (ds : List D) : InitR := if ds.length = k then match G (startI n p C ds) with
    | .nx ρ => endX p C ρ
    | .rt (.d .non) ρ => endX p C ρ
    | .exc x _ => .exc x
    | _ => .err
  else .err
section
variable {P : Program} {w : World} {K : PySem.W.Frag} {mg : Str → Option Value} {base : Heap}
theorem fn_okIX {x qual : Str} {st : Stmt} {f C : Addr} {fd : FuncData} {y : Str} {N ps : List Str} {k : Nat} {G : Rho → Out} (F : Fun K x qual st f fd) (S : FnScope (y :: N) (y :: ps) (defScope st))
    (hbody : ∀ (cdv : Value) (A : Around) (outer : List PySem.Env) (s : Shared) (H : Hp) (E : XK), Room k (A.deeper (PyProof.Rows.envOfC qual (defScope st) s.heap.objs.size f cdv)) →
      Takes (cxOf (L2.CX P w) P w K mg base (y :: N) qual (defScope st) f cdv A outer s H E) (fun cls d _ H' => E cls d H') →
      FB (cxOf (L2.CX P w) P w K mg base (y :: N) qual (defScope st) f cdv A outer s H E) (fun cls d _ H' => E cls d H') (defBody st) G) :
    FnOk P w K mg base (L2.CX P w) (k + 1) f fd (y :: ps) (spIX K C (runIX (N.length + 1) ps.length C G)) := by
  refine F.okX S (fun vs H Q E h => ?_) (fun cdv A outer s H vs Q E hr h => ?_)
  · obtain ⟨B, p, dx, ws, ds, rfl, _, _, _, r, post⟩ := h
    unfold runIX at post
    by_cases hl : ds.length = ps.length
    · rw [List.length_cons, List.length_cons, r.length, hl]
    · rw [if_neg hl] at post; exact post.elim
  · obtain ⟨B, p, dx, ws, ds, rfl, ex, hb, hp, r, post⟩ := h
    obtain ⟨t, pb, o⟩ := (hbody cdv A outer s H E hr (takes_of rfl rfl rfl rfl)).ex
    refine ⟨t, pb, ?_⟩
    have kept : ∀ {ρ' : Rho} {B' H' : Hp} {σ' : St}, SR K B' H' σ' ρ' → Step B H (L2.start (y :: N) (.ref p :: ws)) (startI (N.length + 1) p C ds) B' H' σ' ρ' → KeptI B H p B' H' := fun {ρ' B' H' σ'} S' st' =>
      ⟨st'.bb, S'.ex, fun a o' hne h1 h2 => by
        obtain ⟨m1, m2, _⟩ := st'.fr a o' h1 h2 (fun z => hne (startI_own z))
        exact ⟨m1, m2⟩, st'.dom, fun c r hne h1 h2 => by
        obtain ⟨m1, m2, _⟩ := st'.gh c r h1 h2 (fun z => hne (startI_own z))
        exact ⟨m1, m2⟩⟩
    have fin : ∀ {ρ' : Rho} {B' H' : Hp} {σ' : St}, SR K B' H' σ' ρ' → Step B H (L2.start (y :: N) (.ref p :: ws)) (startI (N.length + 1) p C ds) B' H' σ' ρ' → (match endX p C ρ' with
        | .ok fs => ∀ B' H' dx' vs', KeptI B H p B' H' → H' p = some (.ins C dx' vs') → B' p = none → RpF K B' fs vs' → Q .non H'
        | .exc x => ∀ B' H' cls d, KeptI B H p B' H' → XR K H B' H' x cls d → E cls d H'
        | .err => False) → Q .non H' := fun {ρ' B' H' σ'} S' st' q => by
      unfold endX endI at q
      cases e0 : ρ'[(0 : Nat)]? with
      | none => rw [e0] at q; exact q.elim
      | some o0 =>
        rw [e0] at q
        cases o0 with
        | none => exact q.elim
        | some sv =>
          cases sv with
          | s q' C' fs' =>
            by_cases hc : q' = p ∧ C' = C
            · obtain ⟨rfl, rfl⟩ := hc
              simp only [and_self, if_true] at q
              obtain ⟨v, g1, rfl, g2, dx', vs', g3, g4⟩ := S'.slot 0 _ e0
              exact q B' H' dx' vs' (kept S' st') g3 g2 g4
            · simp only [hc, if_false] at q
          | _ => exact q.elim
    unfold runIX at post
    by_cases hl : ds.length = ps.length
    · rw [if_pos hl] at post
      refine o B H _ _ _ (startI_sr ex hb hp r) ?_
      cases eg : G (startI (N.length + 1) p C ds) with
      | err => rw [eg] at post; exact post.elim
      | bk _ => rw [eg] at post; exact post.elim
      | ct _ => rw [eg] at post; exact post.elim
      | exc x ρ' =>
        rw [eg] at post
        exact fun B' H' σ' cls d S' st' xr => post B' H' cls d (kept S' st') xr
      | nx ρ' =>
        rw [eg] at post
        exact fun B' H' σ' S' st' => fin S' st' post
      | rt r' ρ' =>
        rw [eg] at post
        intro B' H' σ' v S' st' hv
        cases r' with
        | d d =>
          cases d with
          | non =>
            have hv' : v = .non := hv
            subst hv'
            exact fin S' st' post
          | _ => exact post.elim
        | own sv => exact post.elim
        | slot i => exact post.elim
    · rw [if_neg hl] at post; exact post.elim
end
noncomputable def initX (fn : Addr → List D → InitR) (ds : List D) : InitR := open Classical in if h : ∃ r, ∀ p, fn p ds = r then h.choose else .err
theorem initX_ok {fn : Addr → List D → InitR} {ds : List D} {r : InitR} (h : ∀ p, fn p ds = r) : initX fn ds = r := by
  have hx : ∃ r, ∀ p, fn p ds = r := ⟨r, h⟩
  unfold initX
  rw [dif_pos hx]
  have := hx.choose_spec 0
  rw [h 0] at this
  exact this.symm
theorem initX_all {fn : Addr → List D → InitR} {ds : List D} (h : initX fn ds ≠ .err) (p : Addr) : fn p ds = initX fn ds := by
  unfold initX at h ⊢
  split
  · rename_i hx
    exact hx.choose_spec p
  · rename_i hx
    rw [dif_neg hx] at h
    exact absurd rfl h
noncomputable def mkFX (C : Addr) (fn : Addr → List D → InitR) (ds : List D) : Ret := match initX fn ds with
  | .ok fs => .ok (.i C fs)
  | .exc x => .exc x
  | .err => .err
theorem mkFX_ok {C : Addr} {fn : Addr → List D → InitR} {ds : List D} {fs : Fs} (h : ∀ p, fn p ds = .ok fs) : mkFX C fn ds = .ok (.i C fs) := by
  unfold mkFX; rw [initX_ok h]
theorem mkFX_exc {C : Addr} {fn : Addr → List D → InitR} {ds : List D} {x : Exn} (h : ∀ p, fn p ds = .exc x) : mkFX C fn ds = .exc x := by
  unfold mkFX; rw [initX_ok h]
theorem mk_spX {K : PySem.W.Frag} {C : Addr} {fn : Addr → List D → InitR} {vs : List V} {H : Hp} {Q : VK} {E : XK} (h : spF K (mkFX C fn) vs H Q E) {x dx : Addr} (hx : H x = none) (hdx : H dx = none) (hne : dx ≠ x) :
    spIX K C fn (.ref x :: vs) (upd (upd H dx (.own x)) x (.ins C dx [])) (fun v H2 => v = .non ∧ Q (.ref x) H2) E := by
  obtain ⟨B, ds, ex, r, post⟩ := h
  have bx : B x = none := by
    cases eb : B x with
    | none => rfl
    | some o => exact absurd hx (ex x o eb).ne
  have same : ∀ a, H a ≠ none → upd (upd H dx (.own x)) x (.ins C dx []) a = H a := fun a hn => by
    rw [upd_ne (fun z => hn (by rw [z]; exact hx)), upd_ne (fun z => hn (by rw [z]; exact hdx))]
  have kept : ∀ {B' H' : Hp}, KeptI B (upd (upd H dx (.own x)) x (.ins C dx [])) x B' H' → Kept B H B' H' := fun kp => ⟨kp.bb, kp.ex, fun a o h1 h2 => by
      refine kp.fr a o (ne_of_none h1 hx) ?_ h2
      rw [upd_ne (ne_of_none h1 hx), upd_ne (ne_of_none h1 hdx)]
      exact h1, fun a h1 => by
      have := kp.dom a h1
      cases eh : H a with
      | none => rfl
      | some o =>
        rw [upd_ne (ne_of_none eh hx), upd_ne (ne_of_none eh hdx), eh] at this
        exact absurd this (by simp), fun c r h1 h2 => by
      obtain ⟨m1, m2⟩ := kp.gh c r (fun z => h2 (by rw [z]; exact hx)) h1 (by rw [same r h2]; exact h2)
      exact ⟨m1, by rw [m2, same c (ex c _ h1).1]⟩⟩
  refine ⟨B, x, dx, vs, ds, rfl, fun a o h => ?_, bx, upd_same, r, ?_⟩
  · have h1 := ex a o h
    rw [same a h1.ne]
    exact h1
  · unfold mkFX at post
    cases ei : initX fn ds with
    | err => rw [ei] at post; exact post.elim
    | ok fs =>
      rw [ei] at post
      rw [initX_all (fn := fn) (ds := ds) (by rw [ei]; exact fun z => by cases z) x, ei]
      exact fun B' H' dx' vs' kp hp hb rf => ⟨rfl, post B' H' _ (kept kp) ⟨x, dx', vs', rfl, hb, hp, rf⟩ fun _ => ⟨rfl, x, rfl, hx⟩⟩
    | exc y =>
      rw [ei] at post
      rw [initX_all (fn := fn) (ds := ds) (by rw [ei]; exact fun z => by cases z) x, ei]
      exact fun B' H' cls d kp xr => post B' H' cls d (kept kp) (xr.h0 fun a h1 => by
        cases eh : H a with
        | none => rfl
        | some o =>
          rw [upd_ne (ne_of_none eh hx), upd_ne (ne_of_none eh hdx), eh] at h1
          cases h1)
section
variable {X : Cx} {W : WX} {CX : CXT} {k n : Nat} {f C : Addr} {fd : FuncData} {ps ks : List Str} {sp : Sp} {x : Str} {p pos : Pos} {e : Expr} {es : List Expr} {kws : List Keyword} {t tk : TA} {g : List Value → List Value → List Value} {gV : List V → List V → List V} {As Ks : Rho → Rs (List RV)} {fi : Addr → List D → InitR}
def tMakeKS (C : Addr) (n m : Nat) (sp : Sp) (gV : List V → List V → List V) (E : St → XK) (t tk : TA) : TE := fun σ H Q => t σ H fun vs H1 => tk σ H1 fun zs H2 => (vs.length = n ∧ zs.length = m) ∧ ∀ q dx, H2 q = none → H2 dx = none → dx ≠ q →
  sp (gV (.ref q :: vs) zs) (upd (upd H2 dx (.own q)) q (.ins C dx [])) (fun v H3 => v = .non ∧ Q (.ref q) H3) (E σ)
theorem pe_makeKS {E : St → XK} (M : Mk X.K C f) (Fn : FnOk X.prog X.w X.K X.mg X.base CX k f fd ps sp) (hr : Room (k + 1) X.A) (hg : Gl X x) (hm : X.mg x = some (.ref C)) (hb : KBn X.K fd ps (n + 1) ks g gV)
    (hx : ∀ (σ : St) (pins : List (Addr × Obj)) (H H0 : Hp) (s s0 : Shared) (u : Value) (s' : Shared), Inv X pins σ H s → CX X.stack H s (E σ) u s' → X.xe u s') (pa : PA X (e :: es) t) (pk : PK X kws tk)
    (hall : (backToKw pos (keywordEach kws X.env)).all (·.1.isSome) = true) (hks : (backToKw pos (keywordEach kws X.env)).filterMap (·.1) = ks) (hdb : (x == ("__debug__" : Str)) = false) (he : starEach (e :: es) X.env = (false, eval e X.env) :: starEach es X.env)
    (hpl : ((backTo pos (starEach (e :: es) X.env)).any (·.1) || (backToKw pos (keywordEach kws X.env)).any (·.1.isNone)) = false) : PE X (.Call (.Name x p) (e :: es) kws pos) (tMakeKS C n ks.length sp gV E t tk) := by
  refine ⟨fun pins s σ H Q I h => wpAny_Call_Name_kw (ld_glob I hg hm ?_ hdb)⟩
  refine PySem.W.callWith_KW (h₀ := X.base) I.ok.mod.kin M.kp hall (thn (pa.run pos pins s σ H _ I h) fun us s1 hu => ?_) hpl he
  obtain ⟨vs, H1, I1, rv, q1⟩ := hu
  refine thn (pk.run pos pins s1 σ H1 _ I1 q1) fun ws s2 hw => ?_
  obtain ⟨zs, H2, I2, rz, ⟨l1, l2⟩, q2⟩ := hw
  refine ⟨I2.kIn, ?_⟩
  rw [hks]
  have hq := q2 (s2.heap.objs.size + 1) s2.heap.objs.size (I2.hok.fresh (Nat.le_succ _)) (I2.hok.fresh (Nat.le_refl _)) (Nat.ne_of_lt (Nat.lt_succ_self _))
  have I3 := Inv.made (C := C) I2
  have rv' : Vals (V.ref (s2.heap.objs.size + 1) :: vs) (Value.ref (s2.heap.objs.size + 1) :: us) := .cons rfl rv
  have bind := hb.to _ (Value.ref (s2.heap.objs.size + 1) :: us) ws I3.kIn (by rw [List.length_cons, ← rv.length, l1]) (by rw [← rz.length]; exact l2)
  have ran := Fn.run _ X.stack _ _ ⟨Value.ref (s2.heap.objs.size + 1) :: us, ks.zip ws⟩ (g (Value.ref (s2.heap.objs.size + 1) :: us) ws) _ _ (E σ) (hr.make C us (ks.zip ws)) (I3.env0.make C us (ks.zip ws)) bind (hb.rel rv' rz) hq
  refine wpAny_call (make_map (f := f) I2.kIn M.makes M.init (beq_iff_eq.mp M.fn) (codeAny_mono ran fun r s3 hr3 => ?_))
  match r, hr3 with
  | .error u, hr3 => exact hx σ pins _ H2 _ s2 u s3 I3 hr3
  | .ok (.ret u), hr3 =>
    obtain ⟨v, H', I4, rv4, ev, q3⟩ := I3.after hr3
    subst ev
    exact ⟨rv4, ⟨V.ref (s2.heap.objs.size + 1), H', I4, rfl, q3⟩⟩
  | .ok .next, hr3 => exact hr3.elim
  | .ok .brk, hr3 => exact hr3.elim
  | .ok .cont, hr3 => exact hr3.elim
theorem fe_makeKX {gf : List Value → List Value → List Value} (M : Mk X.K C f) (Fn : FnOk X.prog X.w X.K X.mg X.base (L2.CX X.prog X.w) k f fd ps (spIX X.K C fi)) (hr : Room (k + 1) X.A) (hg : Gl X x) (hm : X.mg x = some (.ref C)) (hb : KBn X.K fd ps ((e :: es).length + 1) ks gf gV) (tk : Takes X W)
    (hgv : ∀ (y : V) (vs zs : List V), vs.length = (e :: es).length → zs.length = ks.length → gV (y :: vs) zs = y :: (vs ++ zs ++ []))
    (ha : FA X W (e :: es) As) (hk : FK X W kws Ks) (la : ∀ ρ rs ρ', As ρ = .ok rs ρ' → rs.length = (e :: es).length) (lk : ∀ ρ rs ρ', Ks ρ = .ok rs ρ' → rs.length = ks.length)
    (hall : (backToKw pos (keywordEach kws X.env)).all (·.1.isSome) = true := by rfl) (hks : (backToKw pos (keywordEach kws X.env)).filterMap (·.1) = ks := by rfl) (hdb : (x == ("__debug__" : Str)) = false := by decide)
    (he : starEach (e :: es) X.env = (false, eval e X.env) :: starEach es X.env := by rfl) (hpl : ((backTo pos (starEach (e :: es) X.env)).any (·.1) || (backToKw pos (keywordEach kws X.env)).any (·.1.isNone)) = false := by rfl) :
    FE X W (.Call (.Name x p) (e :: es) kws pos) (eCallKX (mkFX C fi) As Ks) := by
  obtain ⟨t, pa, oa⟩ := ha.ex
  obtain ⟨tk', pk, ok⟩ := hk.ex
  refine ⟨_, pe_makeKS (E := WE W) M Fn hr hg hm hb (fun σ pins H _ s _ u s' I c => passAt tk σ pins H s u s' I c) pa pk hall hks hdb he hpl, fun B H σ ρ Q S post => ?_⟩
  unfold eCallKX at post
  cases e1 : As ρ with
  | err => rw [e1] at post; exact post.elim
  | exc y ρ1 => exact oa B H σ ρ _ S (by rw [e1] at post ⊢; exact post)
  | ok rs ρ1 =>
    rw [e1] at post
    refine oa B H σ ρ _ S ?_
    rw [e1]
    intro B1 H1 S1 st1 f1 vs hvs
    cases e2 : Ks ρ1 with
    | err => rw [bind_ok, e2] at post; exact post.elim
    | exc y ρ2 =>
      rw [bind_ok, e2] at post
      refine ok B1 H1 σ ρ1 _ S1 ?_
      rw [e2]
      exact fun B' H' cls d S' st' xr => post B' H' cls d S' (st1.trans st') (xr.h0 st1.dom)
    | ok zs ρ2 =>
      rw [bind_ok, e2] at post
      refine ok B1 H1 σ ρ1 _ S1 ?_
      rw [e2]
      intro B2 H2 S2 st2 f2 ws hws
      have lv : vs.length = (e :: es).length := by rw [rvl_len hvs.1]; exact la _ _ _ e1
      have lw : ws.length = ks.length := by rw [rvl_len hws.1]; exact lk _ _ _ e2
      refine ⟨⟨lv, lw⟩, fun q dx hq hdx hne => ?_⟩
      rw [hgv _ _ _ lv lw]
      exact mk_spX (call_postX (dvs := []) (dds := []) S2 (st1.trans st2) (f1.trans f2) (rvs_app st1 st2 f2 hvs hws) (fun _ => rfl) post) hq hdx hne
end
end FP
namespace FP
open PySem PySem.W PySem.Calls PyProof.Rows
/-! ## Own errors with fields: __init__ says super().__init__('..') and stores its arguments -/
abbrev FPos := Pos × Pos × Pos × Pos
def iSt (z : Str × FPos) : Stmt := .Assign [.Attribute (.Name "self" z.2.1) z.1 z.2.2.1] (.Name z.1 z.2.2.2.1) z.2.2.2.2
def iSup (txt : Str) (j : Nat) (q1 q2 q3 q4 q5 q6 : Pos) : Stmt := .Expr (.Call (.Attribute (.Call (.Name "super" q1) [] [] q2) "__init__" q3) [.Constant (.str txt) j q4] [] q5) q6
/-- how the call of super().__init__ is evaluated -/
def SupEv (txt : Str) (j : Nat) (q1 q2 q3 q4 q5 q6 : Pos) (env : Env) : Prop := interactive env = false ∧ swapsWith (.Call (.Attribute (.Call (.Name "super" q1) [] [] q2) "__init__" q3) [.Constant (.str txt) j q4] [] q5) none q6.line env = pure false ∧ ∃ pl : Sem Bool, eval (.Call (.Attribute (.Call (.Name "super" q1) [] [] q2) "__init__" q3) [.Constant (.str txt) j q4] [] q5) env = (do
  let ov ← attributeBase (.Call (.Name "super" q1) [] [] q2) "__init__" env (eval (.Call (.Name "super" q1) [] [] q2) env)
  standAt q3.atName
  let (f, first) ← holding [ov] (getMethod ov "__init__" pl)
  callWith q5 f first (backTo q5 (starEach [.Constant (.str txt) j q4] env)) [])
structure ErrT (P : Program) (K : Frag) (mg : Str → Option Value) (C fI : Addr) (fs : List Str) : Prop where
  gC : mg "super" = none
  cls : ∃ nm q N bs bm sn sub ab col dd k0 k1 k2 k3 k5, K.lookup C = some (excClassObj nm q C N bs bm true sn sub ab col dd k0 k1 k2 k3 k5 "ValueError.__new__") ∧ HandSPX.refsVE bm = true
  sa : findIn K (.ref C) "__setattr__" = some (some (.builtin "object.__setattr__"))
  noN : ∀ f ∈ fs, findIn K (.ref C) f = some none
  iC : findIn K (.ref C) "__init__" = some (some (.ref fI))
  tI : typeIn K (.ref fI) = some (.type "function")
  kC : keepIn K (.ref C) = true
  exC : subIn K (.ref C) (.type "BaseException") = some true
  tyC : typeIn K (.ref C) = some (.type "type")
  own : mroIn K C (.ref C) = some true
  sup : ks_superIn K C C "__init__" = some (some (.builtin "ValueError.__init__"))
  subV : subIn K (.ref C) (.type "ValueError") = some true
  th : nsIn K cStatics "thirdparty.any" = some none
  nd : ((("self" : Str)) :: fs).Nodup
  top : (P.main.scope.names.lookup ("super" : Str)).isSome = false
  fn : ∃ (oc : Value) (od : Option Addr) (qual : Str) (params : Arguments) (body : List Stmt) (scope : Scope) (kV doc pm : Value) (an : Option Addr) (cda : Addr) (ct : Value) (osl : Array (Option Value)) (cc : Addr) (cl : Value) (cld : Option Addr) (csl : Array (Option Value)),
    K.lookup fI = some ⟨oc, od, .func (ksFn "__init__" qual params body scope .none kV doc pm an (.ref cda) ct cc), osl⟩ ∧ codeIn K (.ref cda) qual = true ∧ K.lookup cc = some ⟨cl, cld, .cell (some (.ref C)), csl⟩ ∧
    (∃ ccl cdd vs ccs file tf, K.lookup cda = some ⟨ccl, cdd, .fields vs, ccs⟩ ∧ vs[2]? = some (.str file tf) ∧ ((P.main.file : Str) == file) = true) ∧
    (∃ ar, (params.posonlyargs ++ params.args).head? = some ar ∧ ar.arg = "self") ∧
    (∀ (s : Shared) (x : Value) (us : List Value), us.length = fs.length → BindsTo s (ksFn "__init__" qual params body scope .none kV doc pm an (.ref cda) ct cc) ⟨x :: us, []⟩ (("self", x) :: fs.zip us)) ∧
    (∃ (txt : Str) (j : Nat) (q1 q2 q3 q4 q5 q6 : Pos) (l : List (Str × FPos)), l.map (·.1) = fs ∧ body = iSup txt j q1 q2 q3 q4 q5 q6 :: l.map iSt ∧ ∀ L, SupEv txt j q1 q2 q3 q4 q5 q6 (ksEnv qual scope L fI (.ref cda) cc)) ∧
    scope.kind = .function ∧ scope.isCoroutine = false ∧ scope.isGenerator = false ∧ (∀ x ∈ scope.names, x.2 ≠ .cell) ∧ (∀ f ∈ ("self" : Str) :: fs, scope.names.lookup f = some .local) ∧
    scope.names.lookup ("super" : Str) = some .globalImplicit ∧ scope.names.lookup ("__class__" : Str) = some .free

theorem lookup_nd {k : Str} {v : Value} : ∀ {l : List (Str × Value)}, (l.map (·.1)).Nodup → (k, v) ∈ l → l.lookup k = some v
  | [], _, h => by cases h
  | (a, b) :: r, n, h => by
    have n' : a ∉ r.map (·.1) ∧ (r.map (·.1)).Nodup := by simpa using n
    rcases List.mem_cons.mp h with e | e
    · cases e
      rw [List.lookup_cons]; simp
    · have ne : (k == a) = false := by
        refine beq_eq_false_iff_ne.mpr ?_
        rintro rfl
        exact n'.1 (List.mem_map.mpr ⟨_, e, rfl⟩)
      rw [List.lookup_cons, ne]
      exact lookup_nd n'.2 e
theorem lookup_rv {k : Str} {v : Value} {l : List (Str × Value)} (n : (l.map (·.1)).Nodup) (h : (k, v) ∈ l) : l.reverse.lookup k = some v :=
  lookup_nd (by rw [List.map_reverse]; exact List.pairwise_reverse.mpr (n.imp fun h => Ne.symm h)) (List.mem_reverse.mpr h)
theorem zip_fst : ∀ {fs : List Str} {us : List Value}, us.length = fs.length → (fs.zip us).map (·.1) = fs
  | [], [], _ => rfl
  | f :: fs, u :: us, h => by
    rw [List.zip_cons_cons, List.map_cons, zip_fst (by simpa using h)]
  | [], _ :: _, h => by cases h
  | _ :: _, [], h => by cases h

abbrev exq (C t : Addr) (dx : Option Addr) : Obj := { cls := .ref C, dict := dx, data := .fields #[.ref t, .none, .none, .none, .bool false, .none] }

section
variable {prog : Program} {w : World} {A : Around} {K : Frag} {mg : Str → Option Value} {C fI x : Addr} {fs : List Str} {scope : Scope} {qual : Str} {cda cc L t1 : Addr}
/-- the stores that follow the first one -/
theorem err_rest {cd : ClassData} {hp : Heap} {Q : Flow → Shared → Prop} {E : Value → Shared → Prop} {g : Array GenState} {dr : Drawn} {os : OsState} {m : Str → Option Value} (hcl : clsIn K C = some cd) (hm : HandSPX.refsVE cd.mro = true) (hh : cd.hasDict = true) (sa : findIn K (.ref C) "__setattr__" = some (some (.builtin "object.__setattr__")))
    (hk : scope.kind = .function) (hxL : x ≠ L) (hsl : scope.names.lookup ("self" : Str) = some .local) (ms : m ("self" : Str) = some (.ref x)) (hpL : hp.objs.size ≤ L) : ∀ {l : List (Str × FPos)} {us : List Value} {done : List (Str × Value)} {h : Heap} {dx : Addr} {t : Nat},
    us.length = l.length → done.length + l.length ≤ 900 → K.In h → h.Ns L m → (∀ z ∈ (l.map (·.1)).zip us, m z.1 = some z.2 ∧ scope.names.lookup z.1 = some .local ∧ findIn K (.ref C) z.1 = some none ∧ (z.1 == ("__debug__" : Str)) = false) →
    h.get? x = some (exq C t1 (some dx)) → (∃ mA, h.Ns1 dx mA ∧ ∀ y, mA y = done.lookup y) → dx ≠ x → dx ≠ L → hp.objs.size ≤ dx → K.lookup x = none → (∀ o, K.lookup dx = some o → False) → (∀ b o, b ≠ x → hp.get? b = some o → h.get? b = some o) →
    (∀ h' t', (∀ b o, b ≠ x → hp.get? b = some o → h'.get? b = some o) → h'.get? x = some (exq C t1 (some dx)) → (∃ mA, h'.Ns1 dx mA ∧ ∀ y, mA y = (((l.map (·.1)).zip us).reverse ++ done).lookup y) → Q .next ⟨h', g, dr, t', os⟩) →
    wpAny (model prog w) A (execs (l.map iSt) (ksEnv qual scope L fI (.ref cda) cc)) Q E ⟨h, g, dr, t, os⟩
  | [], us, done, h, dx, t, hu, hz, X, hn, hl, hx, hd, ne, neL, ge, nx, nd, k, hq => by
    have eu : us = [] := List.length_eq_zero_iff.mp hu
    subst eu
    exact wpAny_execs_nil (hq h t k hx (by simpa using hd))
  | z :: l, [], done, h, dx, t, hu, _, _, _, _, _, _, _, _, _, _, _, _, _ => by cases hu
  | z :: l, u :: us, done, h, dx, t, hu, hz, X, hn, hl, hx, hd, ne, neL, ge, nx, nd, k, hq => by
    obtain ⟨mA, hns, em⟩ := hd
    obtain ⟨mz, sz, nz, dz⟩ := hl (z.1, u) (by simp)
    have wi : Within mA (done.map (·.1)) := fun y hy => by
      rw [em y] at hy
      cases e : done.lookup y with
      | none => exact absurd e hy
      | some v =>
        obtain ⟨a, b, e1, e2⟩ : ∃ a b, (a, b) ∈ done ∧ a = y := by
          clear hz hns em hy hq
          induction done with
          | nil => cases e
          | cons p r ih =>
            obtain ⟨a, b⟩ := p
            by_cases hp : a = y
            · exact ⟨a, b, List.mem_cons_self, hp⟩
            · have q : (y == a) = false := beq_eq_false_iff_ne.mpr (Ne.symm hp)
              rw [List.lookup_cons, q] at e
              obtain ⟨c, d, e1, e2⟩ := ih e
              exact ⟨c, d, List.mem_cons_of_mem _ e1, e2⟩
        exact e2 ▸ List.mem_map.mpr ⟨_, e1, rfl⟩
    obtain ⟨oD, _, _, hoD, _, _⟩ := hns.count wi
    rw [List.map_cons]
    refine wpAny_execs_cons (plainObj_wpAny_Assign_Attribute ?_)
    refine wpAny_Name (wpAny_loadName_local hk sz hn mz ?_) dz
    refine wpAny_Name (wpAny_loadName_local hk hsl hn ms ?_) (by decide)
    refine set_plain X (ox := exq C t1 (some dx)) (od := some oD) ⟨hx, rfl, rfl, hoD⟩ sa ?_
    refine OEX.osa_old X hx hns wi (by rw [List.length_map]; omega) hcl hm hh nz fun h' t' k' hn' => ?_
    refine err_rest (l := l) (us := us) (done := (z.1, u) :: done) (h := h') (dx := dx) hcl hm hh sa hk hxL hsl ms hpL (by simpa using hu) (by simp only [List.length_cons] at hz ⊢; omega) (fun b o e => k' b o (fun q => nd o (q ▸ e)) (X b o e)) ?_ (fun y hy => hl y (by simp only [List.map_cons, List.zip_cons_cons]; exact List.mem_cons_of_mem _ hy))
      (k' _ _ (Ne.symm ne) hx) ⟨_, hn', fun y => ?_⟩ ne neL ge nx nd (fun b o hb e => k' b o (fun q => ?_) (k b o hb e)) fun h2 t2 k2 hx2 hd2 => hq h2 t2 k2 hx2 ?_
    · exact hn.at fun o e => k' _ _ (Ne.symm neL) e
    · show (if y = z.1 then some u else mA y) = _
      rw [List.lookup_cons]
      by_cases hy : y = z.1
      · subst hy; simp
      · have q : (y == z.1) = false := beq_eq_false_iff_ne.mpr hy
        rw [if_neg hy, q, em y]
    · rw [q] at e
      exact absurd (Heap.lt_size e) (Nat.not_lt.mpr ge)
    · simpa using hd2
/-- __init__ of a fresh error at x -/
theorem err_init {s : Shared} {R : Result → Shared → Prop} (T : ErrT prog K mg C fI fs) (hdb : ∀ f ∈ fs, (f == ("__debug__" : Str)) = false) {t0 : Addr} {us : List Value} (X : K.In s.heap) (hg : s.heap.Ns mainGlobals mg) (hb : ∃ mb, s.heap.Ns builtinsNs mb ∧ ∀ y : Str, y ≠ "__name__" → mb y = bootBuiltins y) (hlim : s.heap.NoLimit)
    (hx : s.heap.get? x = some (HandSPX.excO C t0)) (nx : K.lookup x = none) (hroom : A.depth < recursionLimit) (hu : us.length = fs.length) (hf : fs ≠ []) (hz : fs.length ≤ 800)
    (hq : ∀ h' tk t1 dx mA, (∀ b o, b ≠ x → s.heap.get? b = some o → h'.get? b = some o) → h'.get? x = some (exq C t1 (some dx)) → s.heap.objs.size ≤ dx → dx ≠ x → h'.Ns1 dx mA → (∀ y, mA y = (fs.zip us).reverse.lookup y) → R (.ok (.ret .none)) { s with heap := h', toks := tk }) :
    codeAny (model prog w) A (.call (.ref fI) ⟨.ref x :: us, []⟩) R s := by
  obtain ⟨oc, od, qual, params, body, scope, kV, doc, pm, an, cda, ct, osl, cc, cl, cld, csl, ho, hcd, hcell, ⟨ccl, cdd, vs, ccs, file, tf, hcode, hvs, hfile⟩, ⟨ar, hp, har⟩, hbind, ⟨txt, j, q1, q2, q3, q4, q5, q6, l, el, rfl, hev⟩, hk, hco, hgen, hcl2, hloc, hks, hkc⟩ := T.fn
  obtain ⟨nm, q, N, bs, bm, sn, sub, ab, col, dd, k0, k1, k2, k3, k5, hC, hbm⟩ := T.cls
  have hcl : clsIn K C = some { name := nm, bases := bs, mro := .ref C :: bm, ns := N, qualname := q, hasDict := true, slotNames := sn, subclasses := sub, abstract := ab, collection := col, hasDel := false } := by unfold clsIn; rw [hC] <;> rfl
  obtain ⟨mb, hbn, hbb⟩ := hb
  obtain ⟨hp0, gs, dr, tk0, os⟩ := s
  have zf := zip_fst hu
  have ndz : ((("self", .ref x) :: fs.zip us : List (Str × Value)).map (·.1)).Nodup := by rw [List.map_cons, zf]; exact T.nd
  have mloc : ∀ y ∈ (("self", .ref x) :: fs.zip us : List (Str × Value)), scope.names.lookup y.1 = some .local := fun y hy => hloc y.1 (by
    have : y.1 ∈ (("self", .ref x) :: fs.zip us : List (Str × Value)).map (·.1) := List.mem_map.mpr ⟨y, hy, rfl⟩
    rw [List.map_cons, zf] at this
    exact this)
  refine ks_codeAny_call_defAt (fd := ksFn "__init__" qual params (iSup txt j q1 q2 q3 q4 q5 q6 :: l.map iSt) scope .none kV doc pm an (.ref cda) ct cc) (binds := ("self", .ref x) :: fs.zip us) hroom (X _ _ ho) rfl hlim (codeRec_of X hcd) rfl (hbind _ _ _ hu) hcl2 mloc (fun h₁ hn kp => ?_) hco hgen hk
  have X1 : K.In h₁ := X.keeps kp
  have hx1 := kp _ _ hx
  have C1 := X1 _ _ hC
  show _root_.PySem.wpAt (model prog w) (A.deeper (ksEnv qual scope hp0.objs.size fI (.ref cda) cc)) (.func _ (ksEnv qual scope hp0.objs.size fI (.ref cda) cc)) (execs (iSup txt j q1 q2 q3 q4 q5 q6 :: l.map iSt) (ksEnv qual scope hp0.objs.size fI (.ref cda) cc)) _ _ _
  obtain ⟨hint, hswp, pl, hpl⟩ := hev hp0.objs.size
  refine ks_wpAt_execs_cons (ks_wpAt_Expr_any (ks_wpAt_MethodCall (pl := pl) ?_ hpl) hint hswp)
  refine ks_wpAt_super_base (env := ksEnv qual scope hp0.objs.size fI (.ref cda) cc) hks hkc (by decide) rfl (X1 _ _ ho) rfl hp rfl (X1 _ _ hcode) rfl hvs hfile T.top ?_
  refine ks_loadName_global hk hks (loadGlobal_builtin (env := ksEnv qual scope hp0.objs.size fI (.ref cda) cc) (hg.keeps kp) T.gC (hbn.keeps kp) ((hbb _ (by decide +kernel)).trans (by boot_by_name)) ⟨rfl, ?_⟩)
  refine wpAny_loadName_free hk hkc rfl ⟨_, X1 _ _ hcell, rfl⟩ ?_
  refine wpAny_loadName_local hk (by rw [har]; exact mloc _ List.mem_cons_self) hn (by rw [har]; exact lookup_rv ndz List.mem_cons_self) ?_
  refine ks_wpAny_isType_cls C1 rfl ⟨rfl, ?_⟩
  refine ks_wpAny_call_super C1 rfl hx1 rfl (fun c e => by cases e) (looks_mroIn X1 T.own) (fun h2 e2 kp2 => ?_)
  have X2 : K.In h2 := X1.keeps kp2
  have hx2 := kp2 _ _ hx1
  have I2 : PySem.W.InstAt h2 x (HandSPX.excO C t0) C none := ⟨hx2, rfl, rfl, trivial⟩
  have hxC : x ≠ C := fun z => by
    have e := X2 _ _ hC
    rw [← z, hx2] at e
    cases e
  have hsup := T.sup
  unfold ks_superIn at hsup
  rw [hcl] at hsup
  refine kxs_getMethod kxs_ValueError e2 (looks_opaque X2 T.th) (l₀ := .ref C :: bm) (fun A' Q' E' s' k' q' => wpAny_bind ((looks_clsIn X2 hcl) A' _ E' s' k' (wpAny_pure q'))) rfl X2 hsup (I2.type.andThen (looks_subIn X2 T.subV)) hxC (by decide) ?_
  refine kxs_callWith (i := "ValueError.__init__") (x := x) rfl ?_
  refine evalArgs_plain (spliced_cons (wpAny_Constant_str (pos := q4) (k := j) (spliced_nil ⟨?_, ?_⟩)))
  · exact Heap.get?_push_at rfl rfl
  have hu3 : (h2.push (kxs_mw "ValueError.__init__" x)).get? h2.objs.size = some (kxs_mw "ValueError.__init__" x) := Heap.get?_push_at rfl rfl
  have kp3 : ∀ b o, h2.get? b = some o → (h2.push (kxs_mw "ValueError.__init__" x)).get? b = some o := fun b o e => Heap.get?_push_of_some _ e
  generalize h2.push (kxs_mw "ValueError.__init__" x) = h3 at hu3 kp3 ⊢
  refine wpAny_call (codeAny_of_tree ?_)
  show wpAny _ _ (callAny (.ref h2.objs.size) ⟨_, []⟩) _ _ _
  simp only [callAny]
  refine wpAny_bind (wpAny_load hu3 ?_)
  simp only [show (Value.type "method-wrapper" == Value.type "method" || Value.type "method-wrapper" == Value.type "builtin_function_or_method" || Value.type "method-wrapper" == Value.type "method-wrapper") = true by decide, if_true]
  refine KFB.if_so (by decide) ?_
  refine wpAny_bind (check_bound_init F.excBase_ValueError.toExcCallFacts (kp3 _ _ (X2 _ _ hC)) (kp3 _ _ hx2) rfl ?_)
  refine wpAny_bind (wpAny_pure (wpAny_pure ?_))
  refine ⟨plainId_quiet F.excBase_ValueError.init.plain _, codeAny_builtin F.excBase_ValueError.initEntry ?_⟩
  refine exc_init_tree (cls := .ref C) (t0 := t0) (dv := none) (c2 := .none) (c3 := .none) (b4 := .bool false) (kp3 _ _ hx2) (by rw [sizeLine_eq]; exact Nat.le_of_ble_eq_true rfl) fun h4 kp4 hx4 _ => ?_
  have kp5 : ∀ b o, b ≠ x → hp0.get? b = some o → h4.get? b = some o := fun b o hb e => kp4 b o hb (kp3 b o (kp2 b o (kp b o e)))
  have kp6 : ∀ b o, b ≠ x → h₁.get? b = some o → h4.get? b = some o := fun b o hb e => kp4 b o hb (kp3 b o (kp2 b o e))
  have nxo : ∀ {b : Addr} {o : Obj}, K.lookup b = some o → b ≠ x := fun {b o} e z => by rw [z, nx] at e; cases e
  have X4 : K.In h4 := fun b o e => kp5 b o (nxo e) (X b o e)
  have xL : x ≠ hp0.objs.size := Nat.ne_of_lt (Heap.lt_size hx)
  have hn4 : h4.Ns hp0.objs.size (fun y => (("self", Value.ref x) :: fs.zip us : List (Str × Value)).reverse.lookup y) := hn.at fun o e => kp6 _ _ (Ne.symm xL) e
  show _root_.PySem.wpAt (model prog w) (A.deeper (ksEnv qual scope hp0.objs.size fI (.ref cda) cc)) _ (execs (l.map iSt) (ksEnv qual scope hp0.objs.size fI (.ref cda) cc)) _ _ _
  refine wpAt_of_wpAny ?_
  have self_in : (("self", Value.ref x) :: fs.zip us : List (Str × Value)).reverse.lookup ("self" : Str) = some (.ref x) := lookup_rv ndz List.mem_cons_self
  have all : ∀ z ∈ (l.map (·.1)).zip us, (("self", Value.ref x) :: fs.zip us : List (Str × Value)).reverse.lookup z.1 = some z.2 ∧ scope.names.lookup z.1 = some .local ∧ findIn K (.ref C) z.1 = some none ∧ (z.1 == ("__debug__" : Str)) = false := fun z hz' => by
    rw [el] at hz'
    have zin : z.1 ∈ fs := (List.of_mem_zip hz').1
    exact ⟨lookup_rv ndz (List.mem_cons_of_mem _ hz'), hloc _ (List.mem_cons_of_mem _ zin), T.noN _ zin, hdb _ zin⟩
  cases l with
  | nil => exact absurd el.symm (by simpa using hf)
  | cons z l =>
    cases us with
    | nil =>
      rw [← el] at hu
      cases hu
    | cons u us =>
      obtain ⟨mz, sz, nz, dz⟩ := all (z.1, u) (by simp)
      rw [List.map_cons]
      refine wpAny_execs_cons (plainObj_wpAny_Assign_Attribute ?_)
      refine wpAny_Name (wpAny_loadName_local hk sz hn4 mz ?_) dz
      refine wpAny_Name (wpAny_loadName_local hk (hloc _ List.mem_cons_self) hn4 self_in ?_) (by decide)
      refine set_plain X4 (ox := exq C h3.objs.size none) (od := none) ⟨hx4, rfl, rfl, trivial⟩ T.sa ?_
      refine HandSPX.exc_osa X4 hx4 hcl (show HandSPX.refsVE (.ref C :: bm) = true from hbm) rfl nz fun h5 t5 dx kp7 dn dne hx5 hn5 => ?_
      have X5 : K.In h5 := fun b o e => kp7 b o (nxo e) (X4 b o e)
      have dL : hp0.objs.size < dx := Nat.lt_of_lt_of_le hn4.lt dn
      refine err_rest (cd := _) hcl (show HandSPX.refsVE (.ref C :: bm) = true from hbm) rfl T.sa hk xL (hloc _ List.mem_cons_self) self_in (Nat.le_refl _) (l := l) (us := us) (done := [(z.1, u)]) (dx := dx) (t1 := h3.objs.size) ?_ ?_ X5 (hn4.at fun o e => kp7 _ _ (Ne.symm xL) e) (fun y hy => all y ?_) hx5 ⟨_, hn5, fun y => ?_⟩ dne (Nat.ne_of_gt dL) (Nat.le_of_lt dL) nx (fun o e => ?_) (fun b o hb e => kp7 b o hb (kp5 b o hb e)) fun h6 t6 kp8 hx6 hd6 => ?_
      · rw [← el] at hu
        simpa using hu
      · rw [← el, List.length_map] at hz
        simp only [List.length_cons, List.length_nil] at hz ⊢
        omega
      · simp only [List.map_cons, List.zip_cons_cons]
        exact List.mem_cons_of_mem _ hy
      · show (if y = z.1 then some u else none) = _
        by_cases hy : y = z.1
        · subst hy; simp
        · rw [if_neg hy, List.lookup_cons, beq_eq_false_iff_ne.mpr hy]; rfl
      · have e1 : dx < hp0.objs.size := Heap.lt_size (X _ _ e)
        exact absurd e1 (Nat.not_lt.mpr (Nat.le_of_lt dL))
      · obtain ⟨mA, hA, eA⟩ := hd6
        refine hq h6 t6 h3.objs.size dx mA kp8 hx6 (Nat.le_of_lt dL) dne hA fun y => ?_
        rw [eA, ← el]
        simp
end
end FP
namespace L2
open PySem PySem.Spec PyProof.Rows
theorem relO_zip : ∀ {fs : List Str} {vs : List V} {us : List Value} {done : List (Str × V)} {donu : List (Str × Value)}, Vals vs us → (∀ f, RelO (done.lookup f) (donu.lookup f)) → ∀ f, RelO (((fs.zip vs).reverse ++ done).lookup f) (((fs.zip us).reverse ++ donu).lookup f)
  | [], _, _, _, _, _, hd, f => by simpa using hd f
  | _ :: _, _, _, _, _, .nil, hd, f => by simpa using hd f
  | g :: fs, _, _, done, donu, .cons (a := v) (b := u) hv hr, hd, f => by
    simp only [List.zip_cons_cons, List.reverse_cons, List.append_assoc, List.singleton_append]
    refine relO_zip (done := (g, v) :: done) (donu := (g, u) :: donu) hr (fun f' => ?_) f
    rw [List.lookup_cons, List.lookup_cons]
    by_cases h : f' = g
    · subst h; simp only [beq_self_eq_true]; exact hv
    · rw [beq_eq_false_iff_ne.mpr h]; exact hd f'
/-- C(e, ..) of an own error with fields -/
def tMkF (C : Addr) (fs : List Str) (ta : TA) : St → Hp → XK → Prop := fun σ H Q => ta σ H fun vs H1 => vs.length = fs.length ∧ ∀ d, H1 d = none → Q (.ref C) (some d) (upd H1 d (.xd (fs.zip vs).reverse))
section
variable {X : Cx} {C fI : Addr} {fs : List Str} {x : Str} {e : Expr} {es : List Expr} {ta : TA} {p pos : Pos} {k : Nat}
theorem pmk_fld (T : FP.ErrT X.prog X.K X.mg C fI fs) (hm : X.mg x = some (.ref C)) (hdf : ∀ f ∈ fs, (f == ("__debug__" : Str)) = false) (hf : fs ≠ []) (hz : fs.length ≤ 800) (hr : Room k X.A) (ha : PA X (e :: es) ta) (hg : Gl X x) (hdb : (x == ("__debug__" : Str)) = false := by decide)
    (he : starEach (e :: es) X.env = (false, eval e X.env) :: starEach es X.env := by rfl) (hpl : (backTo pos (starEach es X.env)).any (·.1) = false := by rfl) :
    PMk X (.Call (.Name x p) (e :: es) [] pos) (tMkF C fs ta) := by
  intro pins s σ H Q I hh
  obtain ⟨nm, q, N, bs, bm, sn, sub, ab, col, dd, k0, k1, k2, k3, k5, hC, hbm⟩ := T.cls
  refine wpAny_Call_Name_kw (ld_glob I hg hm ?_ hdb)
  refine PySem.W.callWith_K (h₀ := X.base) I.ok.mod.kin T.kC (thn (ha.run pos pins s σ H _ I hh) fun us s1 ⟨vs, H1, I1, r1, hlen, q1⟩ => ⟨I1.kIn, ?_⟩) he hpl
  show wpAny _ _ (call (.ref C) us) _ _ _
  have ul : us.length = fs.length := by rw [← r1.length]; exact hlen
  have hb : ∃ mb, s1.heap.Ns builtinsNs mb ∧ ∀ y : Str, y ≠ "__name__" → mb y = bootBuiltins y := by
    obtain ⟨mb, h1, h2⟩ := I1.mod.blt
    exact ⟨mb, h1.keeps I1.bk, h2⟩
  have hgl := I1.mod.glob.keeps I1.bk
  have hlim := I1.nolimit
  have hK := I1.kIn
  have hus : us.length ≤ sizeLine := by rw [ul, sizeLine_eq]; omega
  obtain ⟨hp, g, dr, tk, os⟩ := s1
  have kk : ∀ b o, hp.get? b = some o → ((hp.push (PySem.W.kdv_tup us)).push (PySem.HandSPX.excO C hp.objs.size)).get? b = some o := fun b o e => Heap.get?_push_of_some _ (Heap.get?_push_of_some _ e)
  have hget : ((hp.push (PySem.W.kdv_tup us)).push (PySem.HandSPX.excO C hp.objs.size)).get? (hp.objs.size + 1) = some (PySem.HandSPX.excO C hp.objs.size) := by heap_get
  have nx : X.K.lookup (hp.objs.size + 1) = none := by
    cases e : X.K.lookup (hp.objs.size + 1) with
    | none => rfl
    | some o => exact absurd (Nat.lt_of_succ_lt (Heap.lt_size (show hp.get? (hp.objs.size + 1) = some o from hK _ _ e))) (Nat.lt_irrefl _)
  refine wpAny_call (PySem.HandSPX.call_own PySem.F.excBase_ValueError (fun Y => PySem.HandSPX.refsVE_contains Y bm hbm) (hK _ _ hC) (PySem.W.looks_findIn hK T.iC) (fun self => PySem.W.bind_fn hK self T.tI) hus ?_)
  refine FP.err_init (s := ⟨(hp.push (PySem.W.kdv_tup us)).push (PySem.HandSPX.excO C hp.objs.size), g, dr, tk, os⟩) T hdf (hK.keeps kk) (hgl.keeps kk) (by obtain ⟨mb, h1, h2⟩ := hb; exact ⟨mb, h1.keeps kk, h2⟩) (hlim.keeps kk) hget nx ?_ ul hf hz fun h' tk' t1 dx mA kp hx dn dne hns hmA => ?_
  · show X.A.depth + 1 < recursionLimit
    have := hr.dp; omega
  have old : ∀ b o, hp.get? b = some o → h'.get? b = some o := fun b o e => kp b o (Nat.ne_of_lt (Nat.lt_succ_of_lt (Heap.lt_size e))) (kk b o e)
  have dbig : hp.objs.size ≤ dx := by
    have e1 : hp.objs.size < (hp.push (PySem.W.kdv_tup us)).objs.size + 1 := by
      have := Heap.size_push hp (PySem.W.kdv_tup us); omega
    have e2 := Heap.size_push (hp.push (PySem.W.kdv_tup us)) (PySem.HandSPX.excO C hp.objs.size)
    have e3 : ((hp.push (PySem.W.kdv_tup us)).push (PySem.HandSPX.excO C hp.objs.size)).objs.size ≤ dx := dn
    omega
  refine ⟨rfl, ?_⟩
  obtain ⟨G', g1, g2⟩ := restrict h' fun b => decide (b ≠ hp.objs.size + 1)
  have gk : ∀ b, b ≠ hp.objs.size + 1 → G'.get? b = h'.get? b := fun b hb => g1 b (decide_eq_true hb)
  have ge : G'.get? (hp.objs.size + 1) = none := g2 _ (by simp)
  have oldG : ∀ b o, hp.get? b = some o → G'.get? b = some o := fun b o q => (gk b (Nat.ne_of_lt (Nat.lt_succ_of_lt (Heap.lt_size q)))).trans (old b o q)
  have rel : ∀ f, RelO ((fs.zip vs).reverse.lookup f) (mA f) := fun f => by
    rw [hmA f]
    have := relO_zip (fs := fs) (done := []) (donu := []) r1 (fun _ => trivial) f
    simpa using this
  have ob : ObjOk X.prog X.w (upd H1 dx (.xd (fs.zip vs).reverse)) G' dx (.xd (fs.zip vs).reverse) := ⟨mA, hns.at fun o q => (gk dx dne).trans q, rel⟩
  have J : Inv X pins σ (upd H1 dx (.xd (fs.zip vs).reverse)) ⟨G', g, dr, tk', os⟩ := I1.laid (t' := tk') oldG dbig ob
  refine ⟨hp.objs.size + 1, _, _, ⟨G', g, dr, tk', os⟩, _, .ref C, some dx, rfl, J, fun b o q => ?_, ge, hx, ⟨rfl, rfl⟩, rfl, rfl, ?_, rfl, I1.bare, raises_own T.exC T.tyC, q1 dx (I1.hok.fresh dbig)⟩
  · by_cases hb2 : b = hp.objs.size + 1
    · have q' : G'.get? b = some o := q
      rw [hb2, ge] at q'; cases q'
    · exact (gk b hb2).symm.trans q
  · rw [upd_ne (Ne.symm dne)]
    exact I1.hok.fresh (Nat.le_succ _)
end
end L2
namespace FP
open PySem L2
section
variable {X : Cx} {W : WX} {C fI : Addr} {fs : List Str} {x : Str} {e : Expr} {es : List Expr} {As : Rho → Rs (List RV)} {p pos pos' : Pos} {k : Nat}
/-- raise C(e, ..) -/
def sRaiseF (C : Addr) (nm : Str) (fs : List Str) (as : Rho → Rs (List RV)) : Rho → Out := fun ρ => (as ρ).thn fun rs ρ1 => if rs.length = fs.length then .exc ⟨.ref C, (fs.zip (rs.map (view ρ1))).reverse, nm⟩ (frzs rs ρ1) else .err
theorem rpf_snoc {K : PySem.W.Frag} {B : Hp} : ∀ {ds : List (Str × D)} {vs : List (Str × V)} {f : Str} {d : D} {v : V}, RpF K B ds vs → Rp K B d v → RpF K B (ds ++ [(f, d)]) (vs ++ [(f, v)])
  | [], _, f, d, v, h, hd => by rw [show _ = [] from h]; exact ⟨v, [], rfl, hd, rfl⟩
  | (n, x) :: ds, _, f, d, v, ⟨w, r, h1, h2, h3⟩, hd => by subst h1; exact ⟨w, _, rfl, h2, rpf_snoc h3 hd⟩
theorem rpf_zip {K : PySem.W.Frag} {B : Hp} : ∀ {fs : List Str} {ds : List D} {vs : List V}, RpL K B ds vs → RpF K B (fs.zip ds).reverse (fs.zip vs).reverse
  | [], _, _, _ => by simp only [List.zip_nil_left, List.reverse_nil]; exact rfl
  | _ :: _, [], _, h => by rw [show _ = [] from h]; simp only [List.zip_nil_right, List.reverse_nil]; exact rfl
  | f :: fs, d :: ds, _, ⟨v, r, h1, h2, h3⟩ => by
    subst h1
    simp only [List.zip_cons_cons, List.reverse_cons]
    exact rpf_snoc (rpf_zip h3) h2
theorem fs_raiseF (nm : Str) (hc : X.calm = true) (tk : Takes X W) (T : ErrT X.prog X.K X.mg C fI fs) (hm : X.mg x = some (.ref C)) (hdf : ∀ f ∈ fs, (f == ("__debug__" : Str)) = false) (hf : fs ≠ []) (hz : fs.length ≤ 800) (hr : Room k X.A) (ha : FA X W (e :: es) As) (hg : Gl X x) (hdb : (x == ("__debug__" : Str)) = false := by decide)
    (he : starEach (e :: es) X.env = (false, eval e X.env) :: starEach es X.env := by rfl) (hpl : (backTo pos (starEach es X.env)).any (·.1) = false := by rfl) :
    FS X W (.Raise (some (.Call (.Name x p) (e :: es) [] pos)) none pos') (sRaiseF C nm fs As) := by
  obtain ⟨t, pa, oa⟩ := ha.ex
  refine ⟨_, ps_raise hc tk (pmk_fld T hm hdf hf hz hr pa hg hdb he hpl), fun B H σ ρ D S post => ?_⟩
  refine oa B H σ ρ _ S (post.ahead fun rs ρ1 B1 H1 S1 st1 f1 post1 vs hvs => ?_)
  split at post1
  · rename_i hl
    obtain ⟨B2, x2, S2, st2, f2, rp, new2, own2⟩ := takes S1 st1 hvs.1 hvs.2
    refine ⟨by rw [rp.length, List.length_map]; exact hl, fun d hd => ?_⟩
    refine post1 B2 _ σ (.ref C) (some d) (S2.new hd) (st2.trans (Step.new S2 hd)) ⟨rfl, ?_, st2.dom d hd, _, upd_same, rpf_zip rp⟩
    intro z
    have := congrArg List.length z
    simp only [List.length_reverse, List.length_zip, List.length_map, List.length_nil] at this
    rw [hl, Nat.min_self] at this
    exact hf (List.length_eq_zero_iff.mp this)
  · exact post1.elim
end
end FP
set_option maxHeartbeats 2000000
namespace FP
open PySem PySem.Spec PyProof.Rows L2
/-! ## try: except clauses with or without a name, several of them -/
/-- the ends of a suite whose clause has the name in slot i -/
def clrE (i : Nat) (D : Ends) : Ends := { nx := fun σ' H' => D.nx (σ'.set i none) H', rt := D.rt, bk := fun σ' H' => D.bk (σ'.set i none) H', ct := fun σ' H' => D.ct (σ'.set i none) H' }
abbrev Cls3 := Value × Option Nat × (Addr → Value → Option Addr → TS)
def wGen (K : PySem.W.Frag) (Wo : WX) (D : Ends) : List Cls3 → WX
  | [] => Wo
  | (c, o, ts) :: r => fun cls d σ H => ∃ b, PySem.W.exmOne K cls c = some b ∧ (b = true → ∀ a, H a = none → (match o with | none => ts a cls d D σ H | some i => ts a cls d (clrE i D) (σ.set i (some (.ref a))) H)) ∧ (b = false → wGen K Wo D r cls d σ H)
inductive HdG (X : Cx) : List ExceptHandler → List Cls3 → Prop
  | nil : HdG X [] []
  | anon {x : Str} {c : Value} {ts : Addr → Value → Option Addr → TS} {b₀ : Stmt} {su : List Stmt} {np p' : Pos} {hds : List ExceptHandler} {l : List Cls3} (hc : Names X x c)
      (hs : ∀ (a : Addr) (oe : Obj) (cls : Value) (d : Option Addr) (pn : List (Addr × Obj)), Zc cls d oe → (∃ vs, oe.data = .fields vs) → PSs (X.suite a ((a, oe) :: pn)) (b₀ :: su) (ts a cls d)) (r : HdG X hds l) :
      HdG X (.ExceptHandler (some (.Name x np)) none (b₀ :: su) p' :: hds) ((c, none, ts) :: l)
  | named {x n : Str} {i : Nat} {c : Value} {ts : Addr → Value → Option Addr → TS} {b₀ : Stmt} {su : List Stmt} {np p' : Pos} {hds : List ExceptHandler} {l : List Cls3} (hc : Names X x c) (hN : X.N.Nodup) (hi : X.N[i]? = some n) (hln : X.env.kindOf n = some .local)
      (hs : ∀ (a : Addr) (oe : Obj) (cls : Value) (d : Option Addr) (pn : List (Addr × Obj)), Zc cls d oe → (∃ vs, oe.data = .fields vs) → PSs (X.suite a ((a, oe) :: pn)) (b₀ :: su) (ts a cls d)) (r : HdG X hds l) :
      HdG X (.ExceptHandler (some (.Name x np)) (some n) (b₀ :: su) p' :: hds) ((c, some i, ts) :: l)
section
variable {X : Cx} {body : List Stmt} {hd0 : ExceptHandler} {hds : List ExceptHandler} {l : List Cls3} {pos : Pos} {tb : WX → TS} {Wo : WX}
theorem ps_try_gen (hstk : X.stack = X.env :: X.outer) (hfrm : X.env.frame = some X.env.locals) (tk : Takes X Wo)
    (hbo : ∀ (W : WX) (pn : List (Addr × Obj)) (xe : Value → Shared → Prop), Takes (X.tr pn xe) W → PassesOwn (model X.prog X.w) X.A X.env xe → PSs (X.tr pn xe) body (tb W))
    (hh : HdG X (hd0 :: hds) l) : PS X (.Try body (hd0 :: hds) [] [] pos) (fun D σ H => tb (wGen X.K Wo D l) D σ H) := by
  refine ⟨fun pins s σ H D I hyp => ?_⟩
  have okX := I.ok
  have frX : X.A.frames = some (X.env :: X.outer) := by rw [okX.frames, hstk]
  refine wpAny_Try_except ?_
  refine wpAny_mono ((hbo (wGen X.K Wo D l) (X.pn ++ pins) (fun u t1 => wpAny (model X.prog X.w) X.A (noteFrame u X.env) (fun _ t2 => wpAny (model X.prog X.w) X.A (setFlight u none) (fun _ t3 => wpAny (model X.prog X.w) X.A (handleBy u X.env (hd0 :: hds)) (SP X pins D) X.xe t3) X.xe t2) X.xe t1) (fun u s' caught => ?_) PassesOwn.looking).run [] s σ H D (I.toTry _) hyp) (fun f s1 done => ?_) (fun u s1 z => z)
  · obtain ⟨a, B, sI, pins', σ', H', cls, d, rfl, J0, nb, up, sky, na, os, ag, wsh⟩ := caught
    have J : Inv X pins σ' H' sI := J0.ofTry okX
    have skyX : Sky B (X.env :: X.outer) a (Zc cls d) X.env.locals s'.heap := by rw [← hstk]; exact sky
    show wpAny (model X.prog X.w) X.A (noteFrame (.ref a) X.env) _ _ _
    refine Sky.land Zc.steady frX hfrm skyX fun hp3 fly upp => ?_
    have J3 : Inv X pins σ' H' { s' with heap := hp3 } := J.landed nb fly.1 (up.trans upp) os ag
    obtain ⟨ob, vals, at_, zz, dd⟩ := fly.there
    have outFr : a ∉ frs (X.env :: X.outer) := fun hm => by
      obtain ⟨_, o', e', hnf⟩ := fly.2.2.1.mem hm
      rw [at_] at e'; cases e'
      exact hnf _ dd
    have neL : a ≠ X.env.locals := fun z => outFr (List.mem_filterMap.mpr ⟨X.env, List.mem_cons_self, by rw [hfrm, z]⟩)
    have neF : a ∉ X.fs := fun hm => by
      obtain ⟨ev, hev, q⟩ := List.mem_filterMap.mp hm
      exact outFr (List.mem_filterMap.mpr ⟨ev, List.mem_cons_of_mem _ hev, q⟩)
    have S3 := J3.suite at_ dd na neL neF
    have looks : PySem.W.Looks (model X.prog X.w) hp3 (typeOf (.ref a)) cls := fun A Q E s k q => wpAny_typeOf_ref (k _ _ at_) (by rw [zz.1]; exact q)
    -- the clause's class is looked up
    have look1 : ∀ {x : Str} {c : Value} {np : Pos} {Q : Value → Shared → Prop} {E : Value → Shared → Prop}, Names X x c → Q c { s' with heap := hp3 } → wpAny (model X.prog X.w) (X.A.mark (some (.ref a))) (eval (.Name x np) X.env) Q E { s' with heap := hp3 } := fun {x c np Q E} hc q => by
      obtain ⟨hg, hdbg, hm | ⟨hm, hv, hnn⟩⟩ := hc
      · exact ld_glob (X := X.suite a ((a, ob) :: (X.pn ++ pins))) S3 hg hm q hdbg
      · exact ld_blt (X := X.suite a ((a, ob) :: (X.pn ++ pins))) S3 hg hm hv q hnn hdbg
    have go : ∀ {hs' : List ExceptHandler} {l' : List Cls3}, HdG X hs' l' → wGen X.K Wo D l' cls d σ' H' → wpAny (model X.prog X.w) X.A (handleBy (.ref a) X.env hs') (SP X pins D) X.xe { s' with heap := hp3 } := by
      intro hs' l' hk
      induction hk with
      | nil =>
        intro wo
        refine wpAny_handleBy_nil ?_
        obtain ⟨k1, k2, k3, oe, vs, T, oT, ts', ge, gz, gd, g1, gr⟩ := id fly
        unfold PySem.passOn
        refine wpAny_bind (wpAny_field ge gd g1 ?_)
        rw [if_neg (show ¬ ((Value.ref T == Value.none) = true) from by simp)]
        have fin : wpAny (model X.prog X.w) X.A (setFlight (.ref a) X.env.frame) (fun _ s4 => wpAny (model X.prog X.w) X.A (throw (.ref a) : Sem Flow) (SP X pins D) X.xe s4) X.xe { s' with heap := hp3 } := by
          rw [hfrm]
          exact HandSPX.setFlight_upZ fly fun h4 hh4 up4 => wpAny_throw (tk _ _ ⟨a, B, sI, pins, σ', H', cls, d, rfl, J, nb, (up.trans upp).trans up4, .inr (.inr (by rw [hstk]; exact hh4)), na, os, ag, wo⟩)
        first | exact wpAny_bind (wpAny_pure (wpAny_bind fin)) | exact wpAny_bind fin
      | @anon x c ts b₀ su np p' hds2 l2 hc hsu r ih =>
        intro ⟨b, hb1, hyes, hno⟩
        refine wpAny_handleBy_cons (codeAny_handlers_test ?_) (by intro q; cases q)
        refine look1 hc ((PySem.W.exm_one (M := model X.prog X.w) J3.kIn looks hb1).here ?_)
        cases b with
        | true =>
          refine codeAny_handlers_suite ?_
          refine HandSPX.lands_againZ fly fun h4 fly4 up4 => ?_
          have J4 : Inv X pins σ' H' { s' with heap := h4 } := J.landed nb fly4.1 ((up.trans upp).trans up4) os ag
          obtain ⟨o4, v4, at4, z4, d4⟩ := fly4.there
          refine wpAny_mono ((hsu a o4 cls d (X.pn ++ pins) z4 ⟨_, d4⟩).run [] _ _ H' _ (J4.suite at4 d4 na neL neF) (hyes rfl a na)) (fun f s6 fin => ?_) (fun _ _ z => False.elim z)
          cases f with
          | ret u =>
            obtain ⟨v6, σ6, H6, S6, r6, q6⟩ := fin
            exact ⟨_, _, _, S6.unsuite okX, r6, q6⟩
          | next => obtain ⟨σ6, H6, S6, q6⟩ := fin; exact ⟨_, _, S6.unsuite okX, q6⟩
          | brk => obtain ⟨σ6, H6, S6, q6⟩ := fin; exact ⟨_, _, S6.unsuite okX, q6⟩
          | cont => obtain ⟨σ6, H6, S6, q6⟩ := fin; exact ⟨_, _, S6.unsuite okX, q6⟩
        | false =>
          show wpAny _ X.A (handleBy (.ref a) X.env hds2) _ _ _
          exact ih (hno rfl)
      | @named x n i c ts b₀ su np p' hds2 l2 hc hN hi hln hsu r ih =>
        intro ⟨b, hb1, hyes, hno⟩
        refine wpAny_handleBy_cons (codeAny_handlers_test ?_) (by intro q; cases q)
        refine look1 hc ((PySem.W.exm_one (M := model X.prog X.w) J3.kIn looks hb1).here ?_)
        cases b with
        | true =>
          refine codeAny_handlers_suite_as ?_
          refine HandSPX.lands_againZ fly fun h4 fly4 up4 => ?_
          have J4 : Inv X pins σ' H' { s' with heap := h4 } := J.landed nb fly4.1 ((up.trans upp).trans up4) os ag
          obtain ⟨o4, v4, at4, z4, d4⟩ := fly4.there
          refine store_ok (X := X.suite a ((a, o4) :: (X.pn ++ pins))) (v := .ref a) (J4.suite at4 d4 na neL neF) hN hi (.inl hln) rfl (fun s5 S5 => ?_) (.inr hln)
          refine wpAny_mono ((hsu a o4 cls d (X.pn ++ pins) z4 ⟨_, d4⟩).run [] s5 _ H' _ S5 (hyes rfl a na)) (fun f s6 fin => ?_) (fun _ _ z => False.elim z)
          have leave : ∀ {σ6 : L2.St} {H6 : Hp} {Q : Shared → Prop}, Inv (X.suite a ((a, o4) :: (X.pn ++ pins))) [] σ6 H6 s6 → (∀ s7, Inv X pins (σ6.set i none) H6 s7 → Q s7) → wpAny (model X.prog X.w) X.A (do bindName X.env n .none; unbindBehindTheSuite X.env n p') (fun _ s7 => Q s7) X.xe s6 := fun {σ6 H6 Q} S6 hq => gone_ok (S6.unsuite okX) hN hi hln hq
          cases f with
          | ret u => obtain ⟨v6, σ6, H6, S6, r6, q6⟩ := fin; exact leave S6 fun s7 J7 => ⟨_, _, _, J7, r6, q6⟩
          | next => obtain ⟨σ6, H6, S6, q6⟩ := fin; exact leave S6 fun s7 J7 => ⟨_, _, J7, q6⟩
          | brk => obtain ⟨σ6, H6, S6, q6⟩ := fin; exact leave S6 fun s7 J7 => ⟨_, _, J7, q6⟩
          | cont => obtain ⟨σ6, H6, S6, q6⟩ := fin; exact leave S6 fun s7 J7 => ⟨_, _, J7, q6⟩
        | false =>
          show wpAny _ X.A (handleBy (.ref a) X.env hds2) _ _ _
          exact ih (hno rfl)
    exact go hh wsh
  · cases f with
    | ret u => obtain ⟨v, σ', H', J', r, q⟩ := done; exact ⟨v, σ', H', J'.ofTry okX, r, q⟩
    | next => obtain ⟨σ', H', J', q⟩ := done; exact wpAny_execs_nil ⟨σ', H', J'.ofTry okX, q⟩
    | brk => obtain ⟨σ', H', J', q⟩ := done; exact ⟨σ', H', J'.ofTry okX, q⟩
    | cont => obtain ⟨σ', H', J', q⟩ := done; exact ⟨σ', H', J'.ofTry okX, q⟩
end
end FP
namespace FP
open PySem L2
structure Hnd where
  tab : List (Str × Value × Bool)
  slot : Option Nat
  run : Addr → Value → Option Addr → Rho → Out
/-- the clause's name goes -/
def clrO (i : Nat) : Out → Out
  | .nx ρ => .nx (ρ.set i none)
  | .bk ρ => .bk (ρ.set i none)
  | .ct ρ => .ct (ρ.set i none)
  | .rt (.slot j) ρ => if j = i then .err else .rt (.slot j) (ρ.set i none)
  | .rt r ρ => .rt r (ρ.set i none)
  | _ => .err
def dOf (fs : List (Str × D)) (dd : Addr) : Option Addr := if fs.isEmpty then none else some dd
def noX : Out → Out
  | .exc _ _ => .err
  | o => o
def Hnd.at (h : Hnd) (x : Exn) (ρ : Rho) (a dd : Addr) : Out := match h.slot with
  | none => noX (h.run a x.cls (dOf x.fs dd) ρ)
  | some i => if i < ρ.length then clrO i (h.run a x.cls (dOf x.fs dd) (ρ.set i (some (.p (.exn a x.cls (dOf x.fs dd) x.fs))))) else .err
/-- the suite's end must not hang on where the exception stands -/
noncomputable def Hnd.end (h : Hnd) (x : Exn) (ρ : Rho) : Out := open Classical in if ∀ a dd, h.at x ρ a dd = h.at x ρ 0 0 then h.at x ρ 0 0 else .err
noncomputable def hands : List Hnd → Exn → Rho → Out
  | [], x, ρ => .exc x ρ
  | h :: r, x, ρ => match h.tab.lookup x.nm with
    | some (v, b) => if x.cls = v then (if b then h.end x ρ else hands r x ρ) else .err
    | none => .err
noncomputable def sTry (body : Rho → Out) (hs : List Hnd) : Rho → Out := fun ρ => match body ρ with
  | .exc x ρ1 => hands hs x ρ1
  | o => o
/-- the clauses' text and what they do -/
inductive HdF (X : Cx) : List ExceptHandler → List Hnd → Prop
  | nil : HdF X [] []
  | anon {x : Str} {c : Value} {h : Hnd} {b₀ : Stmt} {su : List Stmt} {np p' : Pos} {hds : List ExceptHandler} {l : List Hnd} (hc : Names X x c) (hsl : h.slot = none) (ht : ∀ q ∈ h.tab, PySem.W.exmOne X.K q.2.1 c = some q.2.2)
      (hs : ∀ (a : Addr) (oe : Obj) (cls : Value) (d : Option Addr) (pn : List (Addr × Obj)), Zc cls d oe → (∃ vs, oe.data = .fields vs) → FB (X.suite a ((a, oe) :: pn)) W0 (b₀ :: su) (h.run a cls d)) (r : HdF X hds l) :
      HdF X (.ExceptHandler (some (.Name x np)) none (b₀ :: su) p' :: hds) (h :: l)
  | named {x n : Str} {i : Nat} {c : Value} {h : Hnd} {b₀ : Stmt} {su : List Stmt} {np p' : Pos} {hds : List ExceptHandler} {l : List Hnd} (hc : Names X x c) (hsl : h.slot = some i) (hN : X.N.Nodup) (hi : X.N[i]? = some n) (hln : X.env.kindOf n = some .local) (ht : ∀ q ∈ h.tab, PySem.W.exmOne X.K q.2.1 c = some q.2.2)
      (hs : ∀ (a : Addr) (oe : Obj) (cls : Value) (d : Option Addr) (pn : List (Addr × Obj)), Zc cls d oe → (∃ vs, oe.data = .fields vs) → FB (X.suite a ((a, oe) :: pn)) W0 (b₀ :: su) (h.run a cls d)) (r : HdF X hds l) :
      HdF X (.ExceptHandler (some (.Name x np)) (some n) (b₀ :: su) p' :: hds) (h :: l)
def tsOf (K : PySem.W.Frag) (h : Hnd) : Addr → Value → Option Addr → TS := fun a cls d D σ H => ∃ B ρ, SR K B H σ ρ ∧ PostS K W0 B H σ ρ D (h.run a cls d ρ)
def cls3 (K : PySem.W.Frag) (c : Value) (h : Hnd) : Cls3 := (c, h.slot, tsOf K h)
theorem lookup_mem {k : Str} {v : Value × Bool} : ∀ {l : List (Str × Value × Bool)}, l.lookup k = some v → (k, v) ∈ l
  | [], h => by cases h
  | (a, b) :: r, h => by
    by_cases e : k = a
    · subst e; rw [List.lookup_cons] at h; simp at h; subst h; exact List.mem_cons_self
    · rw [List.lookup_cons, beq_eq_false_iff_ne.mpr e] at h
      exact List.mem_cons_of_mem _ (lookup_mem h)
section
variable {K : PySem.W.Frag} {W : WX} {B H B' H' : Hp} {σ σ' : St} {ρ ρ1 : Rho} {D : Ends}
theorem SR.clr (S : SR K B H σ ρ) (i : Nat) : SR K B H (σ.set i none) (ρ.set i none) where
  ex := S.ex
  len := by rw [List.length_set, List.length_set]; exact S.len
  slot := fun j sv h => by
    by_cases hj : i = j
    · subst hj
      by_cases hl : i < ρ.length
      · rw [List.getElem?_set_self hl] at h; cases h
      · rw [List.getElem?_eq_none (by simpa using hl)] at h; cases h
    · rw [List.getElem?_set_ne hj] at h ⊢
      exact S.slot j sv h
  dis := fun j k sv sv' a h1 o1 h2 o2 h3 h4 => by
    have nj : i ≠ j := by
      rintro rfl
      by_cases hl : i < ρ.length
      · rw [List.getElem?_set_self hl] at h1; cases h1
      · rw [List.getElem?_eq_none (by simpa using hl)] at h1; cases h1
    have nk : i ≠ k := by
      rintro rfl
      by_cases hl : i < ρ.length
      · rw [List.getElem?_set_self hl] at h2; cases h2
      · rw [List.getElem?_eq_none (by simpa using hl)] at h2; cases h2
    rw [List.getElem?_set_ne nj] at h1 h3
    rw [List.getElem?_set_ne nk] at h2 h4
    exact S.dis j k sv sv' a h1 o1 h2 o2 h3 h4
theorem clr_own {i : Nat} {a : Addr} (h : OwnAt (σ.set i none) (ρ.set i none) a) : OwnAt σ ρ a := by
  obtain ⟨j, sv, h1, o1, h2⟩ := h
  have nj : i ≠ j := by
    rintro rfl
    by_cases hl : i < ρ.length
    · rw [List.getElem?_set_self hl] at h1; cases h1
    · rw [List.getElem?_eq_none (by simpa using hl)] at h1; cases h1
  rw [List.getElem?_set_ne nj] at h1 h2
  exact ⟨j, sv, h1, o1, h2⟩
theorem Step.clr (st : Step B H σ ρ B' H' σ' ρ1) (i : Nat) : Step B H σ ρ B' H' (σ'.set i none) (ρ1.set i none) :=
  st.own fun _ z => clr_own z
/-- the suite's wish from the statement's -/
theorem clr_post {i : Nat} {x : Out} (post : PostS K W B H σ ρ D (clrO i x)) : PostS K W0 B H σ ρ (clrE i D) x := by
  cases x with
  | err => exact post.elim
  | exc x ρ' => exact post.elim
  | nx ρ' => exact fun B1 H1 σ1 S1 st1 => post B1 H1 _ (S1.clr i) (st1.clr i)
  | bk ρ' => exact fun B1 H1 σ1 S1 st1 => post B1 H1 _ (S1.clr i) (st1.clr i)
  | ct ρ' => exact fun B1 H1 σ1 S1 st1 => post B1 H1 _ (S1.clr i) (st1.clr i)
  | rt r ρ' =>
    intro B1 H1 σ1 v S1 st1 hv
    cases r with
    | d d => exact post B1 H1 _ v (S1.clr i) (st1.clr i) hv
    | own sv =>
      obtain ⟨h1, h2, nt, a, h3, h4, h5⟩ := hv
      exact post B1 H1 _ v (S1.clr i) (st1.clr i) ⟨h1, h2, nt, a, h3, h4, fun z => h5 (clr_own z)⟩
    | slot j =>
      replace post : PostS K W B H σ ρ D (if j = i then .err else .rt (.slot j) (ρ'.set i none)) := post
      by_cases hj : j = i
      · rw [if_pos hj] at post; exact post.elim
      · rw [if_neg hj] at post
        obtain ⟨h1, sv, h2, nt⟩ := hv
        exact post B1 H1 _ v (S1.clr i) (st1.clr i) ⟨by rw [List.getElem?_set_ne (Ne.symm hj)]; exact h1, sv, by rw [List.getElem?_set_ne (Ne.symm hj)]; exact h2, nt⟩
/-- without exceptions -/
theorem noX_post {x : Out} (post : PostS K W B H σ ρ D (noX x)) : PostS K W0 B H σ ρ D x := by
  cases x with
  | exc e ρ' => exact post.elim
  | err => exact post
  | nx _ => exact post
  | bk _ => exact post
  | ct _ => exact post
  | rt _ _ => exact post
/-- the caught exception's dict becomes data -/
theorem exn_in {x : Exn} {cls : Value} {d : Option Addr} {a : Addr} (S : SR K B' H' σ' ρ1) (st : Step B H σ ρ B' H' σ' ρ1) (xr : XR K H B' H' x cls d) :
    ∃ B2, SR K B2 H' σ' ρ1 ∧ Step B H σ ρ B2 H' σ' ρ1 ∧ Rp K B2 (.exn a cls d x.fs) (.ref a) := by
  cases d with
  | none => exact ⟨B', S, st, rfl, .inl ⟨rfl, xr.2⟩⟩
  | some dd =>
    obtain ⟨_, _, hn, vs, hd, rf⟩ := xr
    cases eb : B' dd with
    | some o =>
      have h0 := S.ex dd o eb
      rcases mark_dec o with ⟨r, rfl⟩ | n
      · exact absurd hd (h0.2 vs)
      · have := h0.get n
        rw [hd] at this
        cases this
        exact ⟨B', S, st, rfl, .inr ⟨dd, vs, rfl, eb, rf⟩⟩
    | none =>
      have ne : ∀ {b : Addr} {o : HO}, H' b = some o → (∀ ws, o ≠ .xd ws) → b ≠ dd := fun {b o} e h z => by
        rw [z, hd] at e
        exact h vs (Option.some.inj e).symm
      refine ⟨upd B' dd (.xd vs), ⟨fun b o e => ?_, S.len, fun i sv e => ?_, S.dis⟩, ⟨st.bb.trans (Ex.new eb), fun b o e1 e2 e3 => ?_, st.dom, fun c r e1 e2 e3 => ?_⟩, rfl, .inr ⟨dd, vs, rfl, upd_same, RpF.up (Ex.new eb) rf⟩⟩
      · by_cases hb : b = dd
        · subst hb; rw [upd_same] at e; cases e; exact hd
        · rw [upd_ne hb] at e; exact S.ex b o e
      · obtain ⟨v, e1, e2⟩ := S.slot i sv e
        refine ⟨v, e1, e2.later (Ex.new eb) (fun ow b o hv g1 g2 => ⟨g1, ?_⟩) fun _ b _ c f1 _ => ⟨by rw [upd_ne fun z => by rw [z, eb] at f1; cases f1]; exact f1, rfl⟩⟩
        subst hv
        have : b ≠ dd := by
          refine ne g1 fun ws z => ?_
          cases sv with
          | t xs => obtain ⟨_, _, _, h1, _, h3, _⟩ := e2; cases h1; rw [g1] at h3; rw [z] at h3; cases h3
          | p _ => cases ow
          | l xs => obtain ⟨_, _, h1, _, h3, _⟩ := e2; cases h1; rw [g1] at h3; rw [z] at h3; cases h3
          | i C fs => obtain ⟨_, _, _, h1, _, h3, _⟩ := e2; cases h1; rw [g1] at h3; rw [z] at h3; cases h3
          | k kvs => obtain ⟨_, _, h1, _, h3, _⟩ := e2; cases h1; rw [g1] at h3; rw [z] at h3; cases h3
          | s p C fs => obtain ⟨h1, _, _, _, h3, _⟩ := e2; cases h1; rw [g1] at h3; rw [z] at h3; cases h3
          | a p xs => obtain ⟨h1, _, _, h3, _⟩ := e2; cases h1; rw [g1] at h3; rw [z] at h3; cases h3
        rw [upd_ne this]; exact g2
      · obtain ⟨g1, g2, g3⟩ := st.fr b o e1 e2 e3
        refine ⟨g1, ?_, g3⟩
        have : b ≠ dd := fun z => by rw [z, hn] at e1; cases e1
        rw [upd_ne this]; exact g2
      · obtain ⟨g1, g2, g3⟩ := st.gh c r e1 e2 e3
        exact ⟨by rw [upd_ne fun z => by rw [z, eb] at g1; cases g1]; exact g1, g2, g3⟩
end
section
variable {X : Cx} {W : WX} {body : List Stmt} {hd0 : ExceptHandler} {hds : List ExceptHandler} {hs : List Hnd} {pos : Pos} {G : Rho → Out}
theorem hdg_of {hl : List ExceptHandler} {hs : List Hnd} (h : HdF X hl hs) : ∃ l, HdG X hl l ∧ ∀ {B H B' H' : Hp} {σ σ' : St} {ρ ρ1 : Rho} {D : Ends} {x : Exn} {cls : Value} {d : Option Addr}, SR X.K B' H' σ' ρ1 → Step B H σ ρ B' H' σ' ρ1 → XR X.K H B' H' x cls d →
    PostS X.K W B H σ ρ D (hands hs x ρ1) → wGen X.K W D l cls d σ' H' := by
  induction h with
  | nil => exact ⟨[], .nil, fun {B H B' H' σ σ' ρ ρ1 D x cls d} S st xr post => post B' H' σ' cls d S st xr⟩
  | @anon x c h b₀ su np p' hds l hc hsl ht hsu r ih =>
    obtain ⟨l', g, k⟩ := ih
    refine ⟨(c, none, tsOf X.K h) :: l', .anon hc (fun a oe cls d pn hz hf => ?_) g, fun {B H B' H' σ σ' ρ ρ1 D x cls d} S st xr post => ?_⟩
    · obtain ⟨t, p, o⟩ := (hsu a oe cls d pn hz hf).ex
      exact ⟨fun pins s σ H D I ⟨B, ρ, S, post⟩ => p.run pins s σ H D I (o B H σ ρ D S post)⟩
    · unfold hands at post
      cases el : h.tab.lookup x.nm with
      | none => rw [el] at post; exact post.elim
      | some vb =>
        obtain ⟨v, b⟩ := vb
        rw [el] at post
        dsimp only at post
        by_cases hx : x.cls = v
        · rw [if_pos hx] at post
          have hm := ht _ (lookup_mem el)
          refine ⟨b, by rw [xr.1, hx]; exact hm, fun hb a ha => ?_, fun hb => ?_⟩
          · rw [if_pos hb] at post
            have hd : d = dOf x.fs (d.getD 0) := by
              cases d with
              | none => have := xr.2; unfold dOf; rw [show x.fs = [] from this]; rfl
              | some dd => have := xr.2.1; unfold dOf; cases hfs : x.fs with
                | nil => exact absurd hfs this
                | cons _ _ => rfl
            unfold Hnd.end at post
            split at post
            · rename_i hall
              rw [← hall a (d.getD 0)] at post
              unfold Hnd.at at post
              rw [hsl] at post
              dsimp only at post
              rw [← hd, ← xr.1] at post
              exact ⟨B', ρ1, S, noX_post (PostS.shift (x := noX (h.run a cls d ρ1)) post st)⟩
            · exact post.elim
          · rw [if_neg (by rw [hb]; exact Bool.false_ne_true)] at post
            exact k S st xr post
        · rw [if_neg hx] at post; exact post.elim
  | @named x n i c h b₀ su np p' hds l hc hsl hN hi hln ht hsu r ih =>
    obtain ⟨l', g, k⟩ := ih
    refine ⟨(c, some i, tsOf X.K h) :: l', .named hc hN hi hln (fun a oe cls d pn hz hf => ?_) g, fun {B H B' H' σ σ' ρ ρ1 D x cls d} S st xr post => ?_⟩
    · obtain ⟨t, p, o⟩ := (hsu a oe cls d pn hz hf).ex
      exact ⟨fun pins s σ H D I ⟨B, ρ, S, post⟩ => p.run pins s σ H D I (o B H σ ρ D S post)⟩
    · unfold hands at post
      cases el : h.tab.lookup x.nm with
      | none => rw [el] at post; exact post.elim
      | some vb =>
        obtain ⟨v, b⟩ := vb
        rw [el] at post
        dsimp only at post
        by_cases hx : x.cls = v
        · rw [if_pos hx] at post
          have hm := ht _ (lookup_mem el)
          refine ⟨b, by rw [xr.1, hx]; exact hm, fun hb a ha => ?_, fun hb => ?_⟩
          · rw [if_pos hb] at post
            have hd : d = dOf x.fs (d.getD 0) := by
              cases d with
              | none => have := xr.2; unfold dOf; rw [show x.fs = [] from this]; rfl
              | some dd => have := xr.2.1; unfold dOf; cases hfs : x.fs with
                | nil => exact absurd hfs this
                | cons _ _ => rfl
            unfold Hnd.end at post
            split at post
            · rename_i hall
              rw [← hall a (d.getD 0)] at post
              unfold Hnd.at at post
              rw [hsl] at post
              dsimp only at post
              by_cases hl : i < ρ1.length
              · rw [if_pos hl, ← hd, ← xr.1] at post
                obtain ⟨B2, S2, st2, rp⟩ := exn_in (a := a) S st xr
                have S3 := setP (i := i) S2 rp
                have st3 : Step B H σ ρ B2 H' (σ'.set i (some (.ref a))) (ρ1.set i (some (.p (.exn a cls d x.fs)))) := st2.own fun _ z => setP_own z
                exact ⟨B2, _, S3, clr_post (PostS.shift (x := clrO i _) post st3)⟩
              · rw [if_neg hl] at post; exact post.elim
            · exact post.elim
          · rw [if_neg (by rw [hb]; exact Bool.false_ne_true)] at post
            exact k S st xr post
        · rw [if_neg hx] at post; exact post.elim
theorem fs_try (hstk : X.stack = X.env :: X.outer) (hfrm : X.env.frame = some X.env.locals) (tk : Takes X W)
    (hb : ∀ (W' : WX) (pn : List (Addr × Obj)) (xe : Value → Shared → Prop), Takes (X.tr pn xe) W' → PassesOwn (model X.prog X.w) X.A X.env xe → FB (X.tr pn xe) W' body G) (hh : HdF X (hd0 :: hds) hs) :
    FS X W (.Try body (hd0 :: hds) [] [] pos) (sTry G hs) := by
  obtain ⟨l, g, k⟩ := hdg_of (W := W) hh
  refine ⟨_, ps_try_gen (tb := fun W' D' σ H => ∃ B ρ, SR X.K B H σ ρ ∧ PostS X.K W' B H σ ρ D' (G ρ)) hstk hfrm tk (fun W' pn xe tk' po' => ?_) g, fun B H σ ρ D' S post => ?_⟩
  · obtain ⟨t, p, o⟩ := (hb W' pn xe tk' po').ex
    exact ⟨fun pins s σ H D' I ⟨B, ρ, S, post⟩ => p.run pins s σ H D' I (o B H σ ρ D' S post)⟩
  · refine ⟨B, ρ, S, ?_⟩
    unfold sTry at post
    cases eG : G ρ with
    | err => rw [eG] at post; exact post
    | nx ρ1 => rw [eG] at post; exact post
    | bk ρ1 => rw [eG] at post; exact post
    | ct ρ1 => rw [eG] at post; exact post
    | rt r ρ1 => rw [eG] at post; exact post
    | exc x ρ1 =>
      rw [eG] at post
      exact fun B' H' σ' cls d S' st' xr => k S' st' xr post
end
end FP
set_option maxHeartbeats 2000000
namespace FP
open PySem L2
/-! ## max(xs, default=d) -/
def rMaxD (K : PySem.W.Frag) : List V → List V → Hp → VK → Prop := fun vs zs H Q => ∃ (a : Addr) (ns : List Int) (n : Int), vs = [V.ref a] ∧ zs = [V.int n] ∧ SqL K H a (ns.map V.int) ∧ (ns = [] → Q (.int n) H) ∧ ∀ m r, ns = m :: r → Q (.int (r.foldl max m)) H
section
variable {X : Cx} {W : WX} {x : Str} {p pos : Pos} {e : Expr} {es : List Expr} {kws : List Keyword} {As Ks : Rho → Rs (List RV)}
theorem cr_maxD (hc : X.calm = true) (hu : X.A.units + 2 < cLine) : CallRK X (.builtin "max") [Str.ofString "default"] (rMaxD X.K) := by
  intro pins s σ H vs zs us ws Q I r1 r2 ⟨a, ns, n, e1, e2, hs, h0, h1⟩
  subst e1; subst e2
  obtain ⟨its, rv, hl, _⟩ := I.list hs
  rw [Vals.ref1 r1]
  cases r2 with
  | cons rn rnil =>
    cases rnil
    obtain ⟨t, rfl⟩ := rn
    refine PySem.W.max_list_default (I.ok.hd hc) hl.isList (as := []) (xs := ns.map PyData.int) (rv.ints.reads s.heap) ⟨fun x hx y hy => ?_, fun x hx => ?_⟩ ?_ (fun hz h' tk hk => ?_) fun y ys i v h' tk bs hy hv rd hk => ?_
    · obtain ⟨i, _, rfl⟩ := List.mem_map.mp hx
      obtain ⟨j, _, rfl⟩ := List.mem_map.mp hy
      rfl
    · obtain ⟨i, _, rfl⟩ := List.mem_map.mp hx
      exact fun z => by cases z
    · have : ∀ l : List Int, PyData.depthAll (l.map PyData.int) ≤ 1 := fun l => by
        induction l with
        | nil => simp [PyData.depthAll]
        | cons i l ih => simp only [List.map_cons, PyData.depthAll, PyData.depth]; omega
      have := this ns
      omega
    · exact ⟨.int n, H, I.kept hk, ⟨t, rfl⟩, h0 (by simpa using hz)⟩
    · cases ns with
      | nil => cases hy
      | cons m r =>
        rw [List.map_cons] at hy
        cases hy
        rw [PySem.W.maxD_ints] at rd
        cases rd
        exact ⟨.int _, H, I.kept hk, ⟨_, rfl⟩, h1 m r rfl⟩
def fMaxD (n : Int) : D → Option D
  | .lst xs => (intsD xs).map fun ns => .int (match ns with | [] => n | m :: r => r.foldl max m)
  | _ => none
def eMaxD (as ks : Rho → Rs (List RV)) : Rho → Rs RV := fun ρ => (as ρ).bind fun rs ρ1 => (ks ρ1).bind fun zs ρ2 => match rs.map (view ρ2), zs.map (view ρ2) with
  | [d], [.int n] => match fMaxD n d with
    | some m => .ok (.d m) ρ2
    | none => .err
  | _, _ => .err
theorem fe_maxD (hc : X.calm = true) (hu : X.A.units + 2 < cLine) (hg : Gl X x) (hm : X.mg x = none) (hv : bootBuiltins x = some (.builtin "max")) (ha : FA X W (e :: es) As) (hk : FK X W kws Ks) (hn : x ≠ "__name__" := by decide) (hdb : (x == ("__debug__" : Str)) = false := by decide)
    (he : backTo pos (starEach (e :: es) X.env) = (false, eval e X.env) :: backTo pos (starEach es X.env) := by rfl) (hpl : (backTo pos (starEach (e :: es) X.env)).any (·.1) = false := by rfl)
    (hall : (backToKw pos (keywordEach kws X.env)).all (·.1.isSome) = true := by rfl) (hnone : (backToKw pos (keywordEach kws X.env)).any (·.1.isNone) = false := by rfl) (hks : (backToKw pos (keywordEach kws X.env)).filterMap (·.1) = [Str.ofString "default"] := by rfl) :
    FE X W (.Call (.Name x p) (e :: es) kws pos) (eMaxD As Ks) := by
  obtain ⟨t, pa, oa⟩ := ha.ex
  obtain ⟨tk, pk, ok⟩ := hk.ex
  refine ⟨_, pe_callBK (cr_maxD hc hu) hg hm hv pa pk hn hdb he hpl hall hnone hks, fun B H σ ρ Q S post => ?_⟩
  refine oa B H σ ρ _ S (post.bind0 fun rs ρ1 B1 H1 S1 st1 f1 post1 vs hvs => ?_)
  refine ok B1 H1 σ ρ1 _ S1 (post1.bind st1 f1 fun zs ρ2 B2 H2 S2 st2 f2 post2 ws hws => ?_)
  have rv := rvl_views S2 (rvl_later st2 f2 hvs.1)
  have rz := rvl_views S2 hws.1
  split at post2
  · rename_i d n e1 e2
    split at post2
    · rename_i m em
      rw [e1] at rv
      rw [e2] at rz
      obtain ⟨v, r0, rfl, hv0, hr0⟩ := rv
      obtain ⟨z, r1, rfl, hz0, hr1⟩ := rz
      have hz' : z = .int n := hz0
      subst hz'
      have hr0' : r0 = [] := hr0
      have hr1' : r1 = [] := hr1
      subst hr0'; subst hr1'
      unfold fMaxD at em
      split at em
      · rename_i xs
        obtain ⟨ns, h3, h4⟩ := Option.map_eq_some_iff.mp em
        obtain ⟨a, vs, rfl, h5, h6⟩ := hv0
        have h7 := intsD_rp h3 h6
        subst h7
        refine ⟨a, ns, n, rfl, rfl, SqL.of h5, fun hz => ?_, fun m0 r hz => ?_⟩
        · subst hz; subst h4
          exact post2 B2 H2 S2 (st1.trans st2) (f1.trans f2) _ rfl
        · subst hz; subst h4
          exact post2 B2 H2 S2 (st1.trans st2) (f1.trans f2) _ rfl
      · cases em
    · exact post2.elim
  · exact post2.elim
end
end FP
namespace L2
open PySem PySem.Spec PyProof.Rows
section
variable {X : Cx} {CX : CXT} {k : Nat} {f C : Addr} {fd : FuncData} {ps : List Str} {sp : Sp} {m : Str} {apos pos : Pos} {o e : Expr} {es : List Expr} {ta : TE} {t : TA}
/-- o.m(e, ..), which may raise -/
def tMethX (C : Addr) (m : Str) (sp : Sp) (E : St → XK) (ta : TE) (t : TA) : TE := fun σ H Q => ta σ H fun x H1 => ∃ a dx fs, x = .ref a ∧ H1 a = some (.ins C dx fs) ∧ fs.lookup m = none ∧ t σ H1 fun vs H2 => sp (x :: vs) H2 Q (E σ)
theorem pe_methX {pl : Sem Bool} {E : St → XK} (he : PE X o ta) (c : Cls X.K C) (hme : Meth X.K C m f) (F : FnOk X.prog X.w X.K X.mg X.base CX k f fd ps sp) (hr : Room k X.A) (hb : Binds X.K fd ps []) (hx : ∀ σ, PassesAt CX X σ (E σ)) (ha : PA X (e :: es) t)
    (hst : starEach (e :: es) X.env = (false, eval e X.env) :: starEach es X.env := by rfl) (hpl : (backTo pos (starEach es X.env)).any (·.1) = false := by rfl)
    (ht : eval (.Call (.Attribute o m apos) (e :: es) [] pos) X.env = (do
      let ov ← eval o X.env
      standAt apos.atName
      let (f, first) ← holding [ov] (getMethod ov m pl)
      callWith pos f first (backTo pos (starEach (e :: es) X.env)) (backToKw pos (keywordEach [] X.env))) := by rfl) :
    PE X (.Call (.Attribute o m apos) (e :: es) [] pos) (tMethX C m sp E ta t) := by
  refine ⟨fun pins s σ H Q I hyp => PySem.W.methodCall_KW (pl := pl) (thn (he.run pins s σ H _ I hyp) fun u s1 ⟨x, H1, I1, rx, a, dx, fs, ex, ea, l, q⟩ => ?_) ht⟩
  subst ex
  obtain rfl : u = Value.ref a := rx
  refine getmeth_ok I1 ea c hme l ?_
  refine PySem.W.callWith_K (first := [.ref a]) (h₀ := X.base) I.ok.mod.kin hme.kp (thn (ha.run pos pins s1 σ H1 _ I1 q) fun us s2 ⟨vs, H2, I2, r, q2⟩ => ⟨I2.kIn, ?_⟩) hst hpl
  exact run_fnS (us := .ref a :: us) (vs := .ref a :: vs) F hr hb (hx σ) I2 (.cons rfl r) q2
/-- o.m() -/
theorem pe_methX0 {pl : Sem Bool} {E : St → XK} (he : PE X o ta) (c : Cls X.K C) (hme : Meth X.K C m f) (F : FnOk X.prog X.w X.K X.mg X.base CX k f fd ps sp) (hr : Room k X.A) (hb : Binds X.K fd ps []) (hx : ∀ σ, PassesAt CX X σ (E σ))
    (ht : eval (.Call (.Attribute o m apos) [] [] pos) X.env = (do
      let ov ← eval o X.env
      standAt apos.atName
      let (f, first) ← holding [ov] (getMethod ov m pl)
      callWith pos f first (backTo pos (starEach [] X.env)) (backToKw pos (keywordEach [] X.env))) := by rfl) :
    PE X (.Call (.Attribute o m apos) [] [] pos) (tMethX C m sp E ta tNil) := by
  refine ⟨fun pins s σ H Q I hyp => PySem.W.methodCall_KW (pl := pl) (thn (he.run pins s σ H _ I hyp) fun u s1 ⟨x, H1, I1, rx, a, dx, fs, ex, ea, l, q⟩ => ?_) ht⟩
  subst ex
  obtain rfl : u = Value.ref a := rx
  refine getmeth_ok I1 ea c hme l ?_
  exact PySem.W.callWith_K0 (first := [.ref a]) I1.kIn hme.kp (run_fnS (us := [.ref a]) (vs := [.ref a]) F hr hb (hx σ) I1 (.cons rfl .nil) q)
end
end L2
namespace FP
open PySem L2
section
variable {X : Cx} {W : WX} {p pos apos : Pos} {x m : Str} {e o : Expr} {es : List Expr} {As : Rho → Rs (List RV)} {F : Rho → Rs RV} {k : Nat} {f C : Addr} {fd : FuncData} {ps : List Str} {fn : List D → Ret}
def eMethX (C : Addr) (m : Str) (fn : List D → Ret) (o : Rho → Rs RV) (as : Rho → Rs (List RV)) : Rho → Rs RV := fun ρ => (o ρ).bind fun r ρ1 => match view ρ1 r with
  | .ins C' fs => if C' = C ∧ fs.lookup m = none then (as ρ1).bind fun rs ρ2 => ofRetX (fn ((r :: rs).map (view ρ2) ++ [])) (r :: rs) ρ2 else .err
  | _ => .err
theorem fe_methX {pl : Sem Bool} (ho : FE X W o F) (c : Cls X.K C) (hme : Meth X.K C m f) (Fn : FnOk X.prog X.w X.K X.mg X.base (L2.CX X.prog X.w) k f fd ps (spF X.K fn)) (hr : Room k X.A) (hb : Binds X.K fd ps []) (tk : Takes X W) (ha : FA X W (e :: es) As)
    (hst : starEach (e :: es) X.env = (false, eval e X.env) :: starEach es X.env := by rfl) (hpl : (backTo pos (starEach es X.env)).any (·.1) = false := by rfl)
    (ht : eval (.Call (.Attribute o m apos) (e :: es) [] pos) X.env = (do
      let ov ← eval o X.env
      standAt apos.atName
      let (f, first) ← holding [ov] (getMethod ov m pl)
      callWith pos f first (backTo pos (starEach (e :: es) X.env)) (backToKw pos (keywordEach [] X.env))) := by rfl) :
    FE X W (.Call (.Attribute o m apos) (e :: es) [] pos) (eMethX C m fn F As) := by
  obtain ⟨to, po, oo⟩ := ho.ex
  obtain ⟨t, pa, oa⟩ := ha.ex
  refine ⟨_, pe_methX (E := WE W) po c hme Fn hr hb (fun σ => passAt tk σ) pa hst hpl ht, fun B H σ ρ Q S post => ?_⟩
  refine oo B H σ ρ _ S (post.bind0 fun r ρ1 B1 H1 S1 st1 f1 post1 v hv => ?_)
  split at post1
  · rename_i C' fs e1
    split at post1
    · rename_i hc
      obtain ⟨rfl, hl⟩ := hc
      obtain ⟨a, dx, vs, rfl, h1, h2⟩ := hv.fields S1 e1
      refine ⟨a, dx, vs, rfl, h1, RpF.lookup_none h2 hl, ?_⟩
      refine oa B1 H1 σ ρ1 _ S1 (post1.bind st1 f1 fun rs ρ2 B2 H2 S2 st2 f2 post2 us hus => ?_)
      have := call_postX (dvs := []) (dds := []) (rs := r :: rs) (vs := .ref a :: us) S2 (st1.trans st2) (f1.trans f2) (rvs_cons st1 st2 f2 hv hus) (fun _ => rfl) post2
      rwa [List.append_nil] at this
    · exact post1.elim
  · exact post1.elim
theorem fe_methX0 {pl : Sem Bool} (ho : FE X W o F) (c : Cls X.K C) (hme : Meth X.K C m f) (Fn : FnOk X.prog X.w X.K X.mg X.base (L2.CX X.prog X.w) k f fd ps (spF X.K fn)) (hr : Room k X.A) (hb : Binds X.K fd ps []) (tk : Takes X W)
    (ht : eval (.Call (.Attribute o m apos) [] [] pos) X.env = (do
      let ov ← eval o X.env
      standAt apos.atName
      let (f, first) ← holding [ov] (getMethod ov m pl)
      callWith pos f first (backTo pos (starEach [] X.env)) (backToKw pos (keywordEach [] X.env))) := by rfl) :
    FE X W (.Call (.Attribute o m apos) [] [] pos) (eMethX C m fn F eNil) := by
  obtain ⟨to, po, oo⟩ := ho.ex
  refine ⟨_, pe_methX0 (E := WE W) po c hme Fn hr hb (fun σ => passAt tk σ) ht, fun B H σ ρ Q S post => ?_⟩
  refine oo B H σ ρ _ S (post.bind0 fun r ρ1 B1 H1 S1 st1 f1 post1 v hv => ?_)
  split at post1
  · rename_i C' fs e1
    split at post1
    · rename_i hc
      obtain ⟨rfl, hl⟩ := hc
      obtain ⟨a, dx, vs, rfl, h1, h2⟩ := hv.fields S1 e1
      refine ⟨a, dx, vs, rfl, h1, RpF.lookup_none h2 hl, ?_⟩
      have := call_postX (dvs := []) (dds := []) (rs := [r]) (vs := [.ref a]) S1 st1 f1 (rvs_cons st1 Step.refl Fills.refl hv ⟨rfl, List.nodup_nil⟩) (fun _ => rfl) post1
      rwa [List.append_nil] at this
    · exact post1.elim
  · exact post1.elim
end
end FP
set_option maxHeartbeats 2000000
namespace FP
open PySem PySem.W PySem.Calls PyProof.Rows
/-! ## Within an except suite: err.f and isinstance(err, ..), err with fields or without -/
section
variable {prog : Program} {w : World} {A : Around} {E : Value → Shared → Prop} {s : Shared} {K : Frag} {x D : Addr} {ox : Obj} {od : Option Obj}
theorem findObj_any {C : Addr} {name : Str} {at' g : Value} (hc : (clsIn K C).isSome = true) (ha : findIn K (.ref C) name = some (some at')) (hg : specialIn K at' "__get__" = some (some g)) (ht : takesIn K at' = some true) : findObj K C od name = some (.bind g at') := by
  obtain ⟨cd, e⟩ := Option.isSome_iff_exists.mp hc
  unfold findObj
  rw [e, Option.bind_some, ha, Option.bind_some]
  simp [hg, ht]
theorem cls_of_exc (ec : L2.ExcC K D) {Q : Option Value → Shared → Prop} (X : K.In s.heap) (I : PySem.W.InstAt s.heap x ox D od) (h : Q (some (.ref D)) { s with toks := s.toks + 1 }) : wpAny (model prog w) A (getAttr? (.ref x) "__class__") Q E s := by
  have found : findObj K D od "__class__" = some (.bind (.builtin "getset_descriptor.__get__") (.builtin "object.__class__")) := findObj_any (by obtain ⟨cd, q, _⟩ := any_some ec.hd; rw [q]; rfl) ec.ha ec.hn ec.ht
  obtain ⟨hp, g, dr, t, os⟩ := s
  have l0 := I.type (M := model prog w)
  have l1 := looks_findIn (M := model prog w) X ec.hg
  have l2 := looks_findIn (M := model prog w) X ec.hk
  have l3 := looks_find (M := model prog w) X I found
  have isB : Looks (model prog w) hp (isInstance (.ref x) (.type "BaseException")) true := l0.andThen (looks_subIn X ec.hs)
  have n0 : (false && onTheHeap (Value.builtin "BaseException.__getattribute__")) = false := rfl
  have n1 : (onTheHeap (Value.ref D) && Value.builtin "BaseException.__getattribute__" == Value.builtin "object.__getattribute__") = false := by
    rw [show (Value.builtin "BaseException.__getattribute__" == Value.builtin "object.__getattribute__") = false by decide +kernel]; rfl
  unfold getAttr? getAttrBy? getAttrBy
  refine wpAny_bind (wpAny_mkText (wpAny_bind (wpAny_attempt (wpAny_holding (wpAny_bind (l0.at (wpAny_bind (l1.at ?_))))))))
  show wpAny _ _ (if (onTheHeap (Value.ref D) && Value.builtin "BaseException.__getattribute__" == Value.builtin "object.__getattribute__") = true then _ else _) _ _ _
  rw [n1, if_neg Bool.false_ne_true]
  unfold getAttrByItsOwn hookBefore
  refine wpAny_bind ?_
  rw [if_pos (show onTheHeap (Value.ref D) = true from rfl)]
  refine l2.at (wpAny_bind (wpAny_attempt (wpAny_holding ?_)))
  unfold callGetattribute
  rw [n0, if_neg Bool.false_ne_true]
  unfold boundAndCalled
  rw [PySem.F.excAttr_ValueError.ga.bind (.ref x)]
  refine wpAny_bind (wpAny_pure ?_)
  show wpAny _ _ (call (.builtin "BaseException.__getattribute__") [.ref x, .str "__class__" t]) _ _ _
  refine wpAny_call (codeAny_call_builtin PySem.F.excAttr_ValueError.ga.plain PySem.F.entry_bexc_ga (@check_slot (model prog w) _ _ ⟨hp, g, dr, t + 1, os⟩ "BaseException.__getattribute__" "BaseException" "__getattribute__" (.ref x) [.str "__class__" t] [] _ (by decide +kernel) (by decide +kernel) isB (PySem.F.args_bexc_ga (.ref x) (.str "__class__" t)) ?_))
  unfold Builtin.«object.__getattribute__»
  refine wpAny_bind (wpAny_of_eq (a := ((Value.ref x : Value), [Value.str "__class__" t])) (by first | rfl | (simp only [slotArgs]; rfl)) (wpAny_bind (wpAny_pure (wpAny_bind (l0.at (wpAny_bind (l3.at ?_)))))))
  show wpAny _ _ (holding [Value.builtin "object.__class__"] (call (.builtin "getset_descriptor.__get__") [.builtin "object.__class__", .ref x, .ref D]) >>= ret) _ _ _
  refine wpAny_bind (wpAny_holding (wpAny_call (class_get (s := ⟨hp, g, dr, t + 1, os⟩) (ox := ox) (od := od) X I ec.hm (wpAny_pure ?_))))
  show wpAny _ _ (handedOut (.ref D)) _ _ _
  rw [handedOut_of (v := .ref D) rfl]
  first | exact wpAny_pure (wpAny_pure h) | exact wpAny_pure h | exact wpAny_pure (wpAny_bind (wpAny_pure (wpAny_pure h)))
theorem kit_of_exc (ec : L2.ExcC K D) : KitX K (.ref x) (.ref D) (fun h => PySem.W.InstAt h x ox D od) where
  ty := fun _ _ _ I => I.type
  it := fun _ _ X _ => by
    obtain ⟨cd, hcd, _⟩ := any_some ec.hd
    unfold clsIn at hcd
    split at hcd
    · rename_i ho
      exact fun A' Q' E' s' k q => by
        unfold isType loadHead
        exact wpAny_bind (wpAny_loadPart (k _ _ (X _ _ ho)) (wpAny_pure q))
    · cases hcd
  ne := fun h tp dd its n sl X htp => by
    obtain ⟨cd, hcd, _⟩ := any_some ec.hd
    refine Bool.eq_false_iff.mpr fun q => ?_
    obtain rfl : D = tp := Value.ref.inj (beq_iff_eq.mp q)
    unfold clsIn at hcd
    split at hcd
    · rename_i ho
      cases (X _ _ ho).symm.trans htp
    · cases hcd
  ca := fun X I k => cls_of_exc ec X I k
end
end FP
namespace FP
open PySem PySem.Spec PyProof.Rows L2
/-- isinstance(e, c), e the exception that the suite holds, with fields or without -/
theorem call_isX {X : Cx} {a D : Addr} {oe : Obj} {d : Option Addr} {pn : List (Addr × Obj)} (C : ExcC X.K D) (hz : Zc (.ref D) d oe) (hf : ∃ vs, oe.data = .fields vs) : CallR (X.suite a ((a, oe) :: pn)) (.builtin "isinstance") (fun xs H Q => (∀ dd, d = some dd → ∃ fs, H dd = some (.xd fs)) ∧ rIsE X.K D a xs H Q) := by
  intro pins s σ H xs us Q I r ⟨hd, c, cv, b, e1, hcv, e2, q⟩
  subst e1
  cases r with
  | cons rx rr =>
    cases rr with
    | cons rt rr =>
      cases rr
      cases rx
      obtain rfl := hcv _ rt
      obtain ⟨hget, _⟩ := I.pin (a, oe) (List.mem_append.mpr (.inl List.mem_cons_self))
      obtain ⟨vs, hv⟩ := hf
      have J : ∃ od, PySem.W.InstAt s.heap a oe D od := by
        obtain ⟨oc, odx, oda, osl⟩ := oe
        obtain ⟨h1, h2⟩ := hz
        dsimp only at h1 h2 hv
        subst h1 h2 hv
        cases odx with
        | none => exact ⟨none, hget, rfl, rfl, trivial⟩
        | some dd =>
          obtain ⟨fs, hfs⟩ := hd dd rfl
          obtain ⟨mA, ⟨o, es, ep, ho, _⟩, _⟩ : ObjOk X.prog X.w H s.heap dd (.xd fs) := I.hok dd _ hfs
          exact ⟨some o, hget, rfl, rfl, ho⟩
      obtain ⟨od, J⟩ := J
      exact PySem.W.kia_one (kit_of_exc C) I.kIn J e2 (fun z => nomatch z) fun tk => ⟨.bl b, H, I.kept (t' := tk) fun _ _ z => z, rfl, q⟩
end FP
namespace FP
open PySem L2
/-- the slot's exception, if it is the one that the suite holds -/
def exnAt (a : Addr) (cls : Value) (d : Option Addr) (i : Nat) (ρ : Rho) : Option (List (Str × D)) := open Classical in match ρ[i]? with
  | some (some (.p (.exn a' c' d' fs))) => if a' = a ∧ c' = cls ∧ d' = d then some fs else none
  | _ => none
def eXf (a : Addr) (cls : Value) (d : Option Addr) (i : Nat) (C : Addr) (f : Str) : Rho → Rs RV := fun ρ => open Classical in match exnAt a cls d i ρ with
  | some fs => if cls = .ref C then (match fs.lookup f with | some v => .ok (.d v) ρ | none => .err) else .err
  | none => .err
def eXi (a : Addr) (cls : Value) (d : Option Addr) (i : Nat) (C : Addr) (b : Bool) : Rho → Rs RV := fun ρ => open Classical in match exnAt a cls d i ρ with
  | some _ => if cls = .ref C then .ok (.d (.bl b)) ρ else .err
  | none => .err
theorem exnAt_rp {K : PySem.W.Frag} {B H : Hp} {σ : St} {ρ : Rho} {a : Addr} {cls : Value} {d : Option Addr} {i : Nat} {fs : List (Str × D)} (S : SR K B H σ ρ) (e : exnAt a cls d i ρ = some fs) : σ[i]? = some (some (.ref a)) ∧ Rp K B (.exn a cls d fs) (.ref a) := by
  unfold exnAt at e
  split at e
  · rename_i a' c' d' fs' h
    split at e
    · rename_i hh
      obtain ⟨rfl, rfl, rfl⟩ := hh
      cases e
      obtain ⟨v, h1, h2⟩ := S.slot i _ h
      obtain ⟨rfl, _⟩ := id h2
      exact ⟨h1, h2⟩
    · cases e
  · cases e
section
variable {X : Cx} {W : WX} {C a : Addr} {oe : Obj} {cls : Value} {d : Option Addr} {pn : List (Addr × Obj)} {i : Nat} {n f cn : Str} {pos p p1 p2 : Pos}
theorem xfc_of (h : ExcC X.K C) : XfC X.K C := ⟨h.hg, h.hk, h.hs, h.hd⟩
theorem fe_xf (T : ExcC X.K C) (hno : PySem.W.findIn X.K (.ref C) f = some none) (hz : Zc cls d oe) (hf : ∃ vs, oe.data = .fields vs) (hN : X.N[i]? = some n) (hv : Vis X.env.scope n) (hd : (n == ("__debug__" : Str)) = false := by decide) (hcd : (n == ("__classdict__" : Str)) = false := by decide)
    (hb : attributeBase (.Name n p1) f X.env (eval (.Name n p1) X.env) = eval (.Name n p1) X.env := by rfl) : FE (X.suite a ((a, oe) :: pn)) W (.Attribute (.Name n p1) f pos) (eXf a cls d i C f) := by
  refine ⟨_, pe_xf (xfc_of T) hno hz hf (pe_var (X := X.suite a ((a, oe) :: pn)) hN hv hd hcd) hb, fun B H σ ρ Q S post => ?_⟩
  unfold eXf at post
  split at post
  · rename_i fs e
    split at post
    · rename_i hc
      obtain ⟨h1, h2, h3⟩ := exnAt_rp S e
      split at post
      · rename_i v el
        refine ⟨.ref a, h1, rfl, hc, ?_⟩
        rcases h3 with ⟨_, rfl⟩ | ⟨dd, vs, ed, hB, rf⟩
        · simp at el
        · obtain ⟨u, lu, ru⟩ := rf.lookup el
          exact ⟨dd, vs, u, ed, S.ex _ _ hB, lu, post.here S u ru⟩
      · exact post.elim
    · exact post.elim
  · exact post.elim
theorem fe_xi {c : V} {cv : Value} {b : Bool} (T : ExcC X.K C) (hz : Zc cls d oe) (hf : ∃ vs, oe.data = .fields vs) (hN : X.N[i]? = some n) (hv : Vis X.env.scope n) (hg : Gl X "isinstance") (hm : X.mg "isinstance" = none) (hc : PE (X.suite a ((a, oe) :: pn)) (.Name cn p2) (tC c)) (hcv : ∀ u, RelV c u → u = cv) (hb : PySem.W.kitOne X.K (.ref C) cv = some b)
    (hs : starEach [.Name n p1, .Name cn p2] X.env = (false, eval (.Name n p1) X.env) :: starEach [.Name cn p2] X.env := by rfl) (hs2 : starEach [.Name cn p2] X.env = (false, eval (.Name cn p2) X.env) :: starEach [] X.env := by rfl) (hpl : (backTo pos (starEach [.Name cn p2] X.env)).any (·.1) = false := by rfl)
    (hd : (n == ("__debug__" : Str)) = false := by decide) (hcd : (n == ("__classdict__" : Str)) = false := by decide) :
    FE (X.suite a ((a, oe) :: pn)) W (.Call (.Name "isinstance" p) [.Name n p1, .Name cn p2] [] pos) (eXi a cls d i C b) := by
  by_cases hcls : cls = .ref C
  · subst hcls
    refine ⟨_, pe_callB (X := X.suite a ((a, oe) :: pn)) (call_isX T hz hf) hg hm (by decide +kernel) (pa_cons (pe_var (X := X.suite a ((a, oe) :: pn)) hN hv hd hcd) (pa_cons hc pa_nil hs2) hs) (by decide) (by decide) hs hpl, fun B H σ ρ Q S post => ?_⟩
    unfold eXi at post
    split at post
    · rename_i fs e
      rw [if_pos rfl] at post
      obtain ⟨h1, h2, h3⟩ := exnAt_rp S e
      refine ⟨.ref a, h1, fun dd ed => ?_, c, cv, b, rfl, hcv, hb, post.here S _ rfl⟩
      rcases h3 with ⟨z, _⟩ | ⟨dd', vs, ed', hB, rf⟩
      · rw [z] at ed; cases ed
      · rw [ed] at ed'; cases ed'
        exact ⟨vs, S.ex _ _ hB⟩
    · exact post.elim
  · refine ⟨fun _ _ _ => False, ⟨fun pins s σ H Q I h => h.elim⟩, fun B H σ ρ Q S post => ?_⟩
    unfold eXi at post
    split at post
    · rw [if_neg hcls] at post; exact post.elim
    · exact post.elim
end
end FP
set_option maxHeartbeats 2000000
namespace FP
open PySem L2
/-! ## Calls of an instance -/
theorem FnOk_toR {P : Program} {w : World} {K : PySem.W.Frag} {mg : Str → Option Value} {base : Heap} {CX : CXT} {k : Nat} {f : Addr} {fd : FuncData} {ps : List Str} {sp : Sp} (F : FnOk P w K mg base CX k f fd ps sp) (hb : Binds K fd ps []) : FnR P w K mg base CX k f sp := by
  intro A outer s H us vs Q E hr e0 r hs
  have hl : us.length = ps.length := by rw [← r.length]; exact F.len _ _ _ _ hs
  have b := hb s us (e0.mod.kin.keeps fun b o e => (e0.bs b o e).1) (by rw [List.append_nil]; exact hl)
  rw [List.append_nil] at b
  exact F.run A outer s H ⟨us, []⟩ us vs Q E hr e0 b r hs
section
variable {X : Cx} {W : WX} {p pos : Pos} {fe e : Expr} {es : List Expr} {As : Rho → Rs (List RV)} {F : Rho → Rs RV} {k : Nat} {f C : Addr} {fd : FuncData} {ps : List Str} {fn : List D → Ret}
def eCallO (C : Addr) (fn : List D → Ret) (o : Rho → Rs RV) (as : Rho → Rs (List RV)) : Rho → Rs RV := fun ρ => (o ρ).bind fun r ρ1 => match view ρ1 r with
  | .ins _ _ => (as ρ1).bind fun rs ρ2 => match view ρ2 r with
    | .ins C' fs => if C' = C then ofRet (fn ((r :: rs).map (view ρ2) ++ [])) (r :: rs) ρ2 else .err
    | _ => .err
  | _ => .err
theorem fe_callO (ho : FE X W fe F) (c : StX.CallO X.K C f) (Fn : FnOk X.prog X.w X.K X.mg X.base CX0 k f fd ps (spF X.K fn)) (hr : Room k X.A) (hb : Binds X.K fd ps []) (ha : FA X W (e :: es) As)
    (ht : eval (.Call fe (e :: es) [] pos) X.env = (do callWith pos (← eval fe X.env) [] (backTo pos (starEach (e :: es) X.env)) (backToKw pos (keywordEach [] X.env))) := by rfl)
    (he : starEach (e :: es) X.env = (false, eval e X.env) :: starEach es X.env := by rfl) (hpl : (backTo pos (starEach es X.env)).any (·.1) = false := by rfl) :
    FE X W (.Call fe (e :: es) [] pos) (eCallO C fn F As) := by
  obtain ⟨to, po, oo⟩ := ho.ex
  obtain ⟨t, pa, oa⟩ := ha.ex
  refine ⟨_, StX.pe_callO po c (FnOk_toR Fn hb) hr pass0 pa ht he hpl, fun B H σ ρ Q S post => ?_⟩
  refine oo B H σ ρ _ S (post.bind0 fun r ρ1 B1 H1 S1 st1 f1 post1 v hv => ?_)
  split at post1
  · rename_i C' fs e1
    obtain ⟨a, dx, vs, rfl, h1, h2⟩ := hv.fields S1 e1
    refine ⟨a, rfl, ?_⟩
    refine oa B1 H1 σ ρ1 _ S1 (post1.bind st1 f1 fun rs ρ2 B2 H2 S2 st2 f2 post2 us hus => ?_)
    split at post2
    · rename_i C2 fs2 e2
      split at post2
      · rename_i hc
        subst hc
        obtain ⟨a', dx', vs', ea, h3, h4⟩ := (hv.later st2 f2).fields S2 e2
        cases ea
        refine ⟨.inr ⟨_, _, h3⟩, ?_⟩
        have := fun E => call_post (E := E) (dvs := []) (dds := []) (rs := r :: rs) (vs := .ref a :: us) S2 (st1.trans st2) (f1.trans f2) (rvs_cons st1 st2 f2 hv hus) (fun _ => rfl) post2
        simp only [List.append_nil] at this
        exact this _
      · exact post2.elim
    · exact post2.elim
  · exact post1.elim
end
/-! ## A list that the callee changes: the argument j, an owned list of the caller's -/
inductive RetM where
  | err | ok (sv : SV) (xs : List D)
/-- what stands for an address -/
abbrev pl (p : Addr) : D := .exn p .none none []
def RetPostM (K : PySem.W.Frag) (B H : Hp) (p : Addr) (Q : VK) : RetM → Prop
  | .err => False
  | .ok sv xs => ∀ B' H' v ws, KeptI B H p B' H' → B' p = none → H' p = some (.lst ws) → RpL K B' xs ws → SVr K B' H' sv v → (sv.owned = true → sv.isT = false ∧ ∃ a, v = .ref a ∧ H a = none) → Q v H'
def spM (K : PySem.W.Frag) (j : Nat) (fn : List D → List D → RetM) : Sp := fun vs H Q _ => ∃ (B : Hp) (ds xs : List D) (p : Addr) (ws : List V), Ex B H ∧ B p = none ∧ H p = some (.lst ws) ∧ RpL K B xs ws ∧ j < ds.length ∧ RpL K B (ds.set j (pl p)) vs ∧ RetPostM K B H p Q (fn (ds.set j .non) xs)
def startM (n j : Nat) (p : Addr) (ds xs : List D) : Rho := (startR n ds).set j (some (.a p xs))
def endM (j : Nat) (p : Addr) (o : Out) : RetM := match o with
  | .nx ρ => match ρ[j]? with
    | some (some (.a q xs)) => if q = p then .ok (.p .non) xs else .err
    | _ => .err
  | .rt r ρ => match ρ[j]? with
    | some (some (.a q xs)) => if q = p then (match r with
      | .slot i => if i = j then .err else .ok (svOf ρ (.slot i)) xs
      | r => .ok (svOf ρ r) xs) else .err
    | _ => .err
  | _ => .err
def runM (n k j : Nat) (G : Rho → Out) (p : Addr) (ds xs : List D) : RetM := if ds.length = k then endM j p (G (startM n j p ds xs)) else .err
noncomputable def fnM (n k j : Nat) (G : Rho → Out) (ds xs : List D) : RetM := open Classical in if ∀ p, runM n k j G p ds xs = runM n k j G 0 ds xs then runM n k j G 0 ds xs else .err
section
variable {K : PySem.W.Frag} {B H B' H' : Hp} {σ : St} {ρ : Rho}
theorem startR_set {n j : Nat} {ds : List D} {d : D} (h : j < ds.length) : startR n (ds.set j d) = (startR n ds).set j (some (.p d)) := by
  unfold startR
  rw [List.length_set, List.map_set, List.set_append_left _ _ (by rw [List.length_map]; exact h)]
theorem startM_sr {N : List Str} {j : Nat} {p : Addr} {ds xs : List D} {vs ws : List V} (ex : Ex B H) (hb : B p = none) (hp : H p = some (.lst ws)) (rx : RpL K B xs ws) (hj : j < ds.length) (r : RpL K B (ds.set j (pl p)) vs) (hN : vs.length ≤ N.length) :
    SR K B H (L2.start N vs) (startM N.length j p (ds.set j .non) xs) ∧ ∀ a, OwnAt (L2.start N vs) (startM N.length j p (ds.set j .non) xs) a → a = p := by
  have S := start_sr (N := N) ex r
  rw [startR_set hj] at S
  have hl := r.length
  rw [List.length_set] at hl
  have hv : vs[j]? = some (.ref p) := by
    obtain ⟨v, h1, h2⟩ := r.getD' (i := j) (d := pl p) (by rw [List.getElem?_set_self hj])
    obtain ⟨rfl, _⟩ := h2
    exact h1
  have hs : (L2.start N vs)[j]? = some (some (.ref p)) := by
    unfold L2.start
    rw [List.getElem?_append_left (by rw [List.length_map]; omega), List.getElem?_map, hv]; rfl
  have hσ : (L2.start N vs).set j (some (.ref p)) = L2.start N vs := by
    refine List.ext_getElem? fun l => ?_
    by_cases hl : j = l
    · subst hl
      rw [List.getElem?_set_self (List.getElem?_eq_some_iff.mp hs).1]; exact hs.symm
    · rw [List.getElem?_set_ne hl]
  have no : ∀ a, ¬ OwnAt (L2.start N vs) ((startR N.length ds).set j (some (.p (pl p)))) a := fun a z => start_own (N := N) (ds := ds) (vs := vs) (setP_own (v := .ref p) (by rw [hσ]; exact z))
  have S2 := setO (sv := .a p xs) (i := j) S ⟨rfl, hb, ws, hp, rx⟩ (no p)
  rw [hσ, List.set_set] at S2
  have e1 : startM N.length j p (ds.set j .non) xs = (startR N.length ds).set j (some (.a p xs)) := by
    unfold startM
    rw [startR_set hj, List.set_set]
  rw [e1]
  refine ⟨S2, fun a z => ?_⟩
  have := setO_own (sv := .a p xs) (a := p) (b := a) (i := j) (σ := L2.start N vs) (ρ := (startR N.length ds).set j (some (.p (pl p)))) (by rw [hσ, List.set_set]; exact z)
  rcases this with q | q
  · exact absurd q (no a)
  · exact q
end
section
variable {P : Program} {w : World} {K : PySem.W.Frag} {mg : Str → Option Value} {base : Heap}
theorem fn_okM {x qual : Str} {st : Stmt} {f : Addr} {fd : FuncData} {N ps : List Str} {k j : Nat} {G : Rho → Out} (F : Fun K x qual st f fd) (S : FnScope N ps (defScope st))
    (hbody : ∀ (cdv : Value) (A : Around) (outer : List PySem.Env) (s : Shared) (H : Hp) (E : XK), Room k (A.deeper (PyProof.Rows.envOfC qual (defScope st) s.heap.objs.size f cdv)) →
      FB (cxOf CX0 P w K mg base N qual (defScope st) f cdv A outer s H E).nox W0 (defBody st) G) :
    FnOk P w K mg base CX0 (k + 1) f fd ps (spM K j (fnM N.length ps.length j G)) := by
  have lenOk : ∀ {ds xs : List D} {p : Addr} {B H : Hp} {Q : VK}, RetPostM K B H p Q (fnM N.length ps.length j G (ds.set j .non) xs) → ds.length = ps.length := fun {ds xs p B H Q} post => by
    unfold fnM at post
    split at post
    · unfold runM at post
      split at post
      · rename_i hl; rwa [List.length_set] at hl
      · exact post.elim
    · exact post.elim
  have preN : ps.length ≤ N.length := by
    have := congrArg List.length S.pre
    rw [List.length_take] at this
    omega
  refine F.ok S (fun vs H Q E h => ?_) (fun cdv A outer s H vs Q E hr h => ?_)
  · obtain ⟨B, ds, xs, p, ws, _, _, _, _, _, r, post⟩ := h
    rw [r.length, List.length_set]; exact lenOk post
  · obtain ⟨B, ds, xs, p, ws, ex, hb, hp, rx, hj, r, post⟩ := h
    obtain ⟨t, pb, o⟩ := (hbody cdv A outer s H E hr).ex
    have hl := lenOk post
    refine ⟨t, pb, ?_⟩
    obtain ⟨S0, own0⟩ := startM_sr (N := N) ex hb hp rx hj r (by rw [r.length, List.length_set, hl]; exact preN)
    refine o B H _ _ _ S0 ?_
    have post2 : RetPostM K B H p Q (endM j p (G (startM N.length j p (ds.set j .non) xs))) := by
      unfold fnM at post
      split at post
      · rename_i hall
        rw [← hall p] at post
        unfold runM at post
        rw [if_pos (by rw [List.length_set]; exact hl)] at post
        exact post
      · exact post.elim
    have kept : ∀ {ρ' : Rho} {B' H' : Hp} {σ' : St}, SR K B' H' σ' ρ' → Step B H (L2.start N vs) (startM N.length j p (ds.set j .non) xs) B' H' σ' ρ' → KeptI B H p B' H' := fun {ρ' B' H' σ'} S' st' =>
      ⟨st'.bb, S'.ex, fun a o' hne h1 h2 => let ⟨m1, m2, _⟩ := st'.fr a o' h1 h2 (fun z => hne (own0 a z)); ⟨m1, m2⟩, st'.dom, fun c r hne h1 h2 => let ⟨m1, m2, _⟩ := st'.gh c r h1 h2 (fun z => hne (own0 r z)); ⟨m1, m2⟩⟩
    cases eg : G (startM N.length j p (ds.set j .non) xs) with
    | err => rw [eg] at post2; exact post2.elim
    | bk _ => rw [eg] at post2; exact post2.elim
    | ct _ => rw [eg] at post2; exact post2.elim
    | exc x ρ' => rw [eg] at post2; exact post2.elim
    | nx ρ' =>
      rw [eg] at post2
      intro B' H' σ' S' st'
      unfold endM at post2
      dsimp only at post2
      split at post2
      · rename_i q xs' e1
        split at post2
        · rename_i hq
          subst hq
          obtain ⟨v, g1, rfl, g2, ws', g3, g4⟩ := S'.slot j _ e1
          exact post2 B' H' .non ws' (kept S' st') g2 g3 g4 rfl (fun z => by cases z)
        · exact post2.elim
      · exact post2.elim
    | rt r0 ρ' =>
      rw [eg] at post2
      intro B' H' σ' v S' st' hv
      unfold endM at post2
      dsimp only at post2
      split at post2
      · rename_i q xs' e1
        split at post2
        · rename_i hq
          subst hq
          obtain ⟨v0, g1, rfl, g2, ws', g3, g4⟩ := S'.slot j _ e1
          have kp := kept S' st'
          cases r0 with
          | d d => exact post2 B' H' v ws' kp g2 g3 g4 hv (fun z => by cases z)
          | own sv =>
            obtain ⟨h1, h2, nt, a, h3, h4, _⟩ := hv
            exact post2 B' H' v ws' kp g2 g3 g4 h2 fun _ => ⟨nt, a, h3, h4⟩
          | slot i =>
            dsimp only at post2
            split at post2
            · exact post2.elim
            · rename_i hij
              obtain ⟨h1, sv, h2, nt⟩ := hv
              obtain ⟨v', h3, h4⟩ := S'.slot i sv h2
              rw [h1] at h3; cases h3
              have es : svOf ρ' (.slot i) = sv := by simp only [svOf, h2]
              rw [es] at post2
              refine post2 B' H' v ws' kp g2 g3 g4 h4 fun ow => ?_
              obtain ⟨a, u, q1, q2, q3⟩ := h4.cell ow
              refine ⟨nt, a, q1, ?_⟩
              have hap : a ≠ q := fun z => hij (S'.dis i j sv _ a h2 ow e1 rfl (by rw [h1, q1]) (by rw [g1, z]))
              cases e : H a with
              | none => rfl
              | some u' =>
                cases eB : B a with
                | none =>
                  obtain ⟨_, _, g5⟩ := st'.fr a u' e eB fun z => hap (own0 a z)
                  exact absurd ⟨i, sv, h2, ow, by rw [h1, q1]⟩ g5
                | some u2 =>
                  exact absurd q3 (st'.bb a u2 eB).ne
        · exact post2.elim
      · exact post2.elim
theorem fn_ok0M {f : Addr} {fd : FuncData} {ps : List Str} {k j : Nat} : FnOk P w K mg base CX0 k f fd ps (spM K j (fun _ _ => .err)) :=
  ⟨fun vs H Q E ⟨_, _, _, _, _, _, _, _, _, _, _, z⟩ => z.elim, fun A outer s H args us vs Q E _ _ _ _ ⟨_, _, _, _, _, _, _, _, _, _, _, z⟩ => z.elim⟩
end
/-! ### the call -/
def eCallM (j : Nat) (fn : List D → List D → RetM) (as : Rho → Rs (List RV)) : Rho → Rs RV := fun ρ => (as ρ).bind fun rs ρ1 => match rs[j]? with
  | some (.slot i) => match (frzs (rs.set j (.d .non)) ρ1)[i]? with
    | some (some (.l xs)) => match fn ((rs.set j (.d .non)).map (view ρ1)) xs with
      | .ok sv xs' => .ok (rvOf sv) ((frzs (rs.set j (.d .non)) ρ1).set i (some (.l xs')))
      | .err => .err
    | some (some (.a p xs)) => match fn ((rs.set j (.d .non)).map (view ρ1)) xs with
      | .ok sv xs' => .ok (rvOf sv) ((frzs (rs.set j (.d .non)) ρ1).set i (some (.a p xs')))
      | .err => .err
    | _ => .err
  | _ => .err
section
variable {K : PySem.W.Frag} {B H B' H' H0 : Hp} {σ : St} {ρ : Rho}
theorem frzs_set {d d' : D} : ∀ {rs : List RV} {j : Nat} {ρ : Rho}, frzs (rs.set j (.d d)) ρ = frzs (rs.set j (.d d')) ρ
  | [], _, _ => rfl
  | r :: rs, 0, ρ => rfl
  | r :: rs, j + 1, ρ => by
    rw [List.set_cons_succ, List.set_cons_succ]
    exact frzs_set (rs := rs) (j := j) (ρ := frz r ρ)
theorem frz_still {r : RV} {ρ : Rho} {i : Nat} {sv : SV} (h : (frz r ρ)[i]? = some (some sv)) (o : sv.owned = true) : ρ[i]? = some (some sv) := by
  cases r with
  | d _ => exact h
  | own _ => exact h
  | slot l =>
    unfold frz at h
    dsimp only at h
    split at h
    · rename_i sv' e
      by_cases hl : l = i
      · subst hl
        rw [List.getElem?_set_self (List.getElem?_eq_some_iff.mp e).1] at h
        cases h
        cases o
      · rwa [List.getElem?_set_ne hl] at h
    · exact h
theorem frzs_still : ∀ {rs : List RV} {ρ : Rho} {i : Nat} {sv : SV}, (frzs rs ρ)[i]? = some (some sv) → sv.owned = true → ρ[i]? = some (some sv)
  | [], _, _, _, h, _ => h
  | r :: rs, ρ, i, sv, h, o => frz_still (frzs_still (rs := rs) h o) o
theorem rvl_setD {d : D} {p : Addr} : ∀ {rs : List RV} {vs : List V} {j i : Nat}, RVl K H0 B H σ ρ rs vs → rs[j]? = some (.slot i) → vs[j]? = some (.ref p) → Rp K B d (.ref p) → RVl K H0 B H σ ρ (rs.set j (.d d)) vs ∧ owns (rs.set j (.d d)) vs = owns rs vs
  | r :: rs, _, 0, i, ⟨v, ws, h1, h2, h3⟩, e, ev, hd => by
    subst h1
    have er : r = .slot i := by simpa using e
    subst er
    have evv : v = .ref p := by simpa using ev
    subst evv
    exact ⟨⟨_, ws, rfl, hd, h3⟩, rfl⟩
  | r :: rs, _, j + 1, i, ⟨v, ws, h1, h2, h3⟩, e, ev, hd => by
    subst h1
    obtain ⟨g1, g2⟩ := rvl_setD (j := j) (i := i) (d := d) (p := p) h3 (by simpa using e) (by simpa using ev) hd
    refine ⟨⟨v, ws, rfl, h2, g1⟩, ?_⟩
    rw [List.set_cons_succ]
    cases r with
    | d _ => exact g2
    | slot _ => exact g2
    | own _ => exact congrArg _ g2
theorem rvl_at : ∀ {rs : List RV} {vs : List V} {j : Nat} {r : RV}, RVl K H0 B H σ ρ rs vs → rs[j]? = some r → ∃ v, vs[j]? = some v ∧ RVr K H0 B H σ ρ r v
  | r :: rs, _, 0, r', ⟨v, ws, h1, h2, h3⟩, e => by
    subst h1
    have er : r = r' := by simpa using e
    subst er
    exact ⟨v, rfl, h2⟩
  | r :: rs, _, j + 1, r', ⟨v, ws, h1, h2, h3⟩, e => by
    subst h1
    obtain ⟨v', g1, g2⟩ := rvl_at (j := j) h3 (by simpa using e)
    exact ⟨v', by simpa using g1, g2⟩
/-- behind a call that has changed the cell of slot i -/
theorem SR.keptM {sv sv' : SV} {p : Addr} {i : Nat} (S : SR K B H σ ρ) (h1 : ρ[i]? = some (some sv)) (ho : sv.owned = true) (h2 : σ[i]? = some (some (.ref p))) (kp : KeptI B H p B' H') (h3 : SVr K B' H' sv' (.ref p)) (ho' : sv'.owned = true) :
    SR K B' H' σ (ρ.set i (some sv')) ∧ Step B H σ ρ B' H' σ (ρ.set i (some sv')) := by
  have own_p : OwnAt σ ρ p := ⟨i, sv, h1, ho, h2⟩
  have hl : i < ρ.length := (List.getElem?_eq_some_iff.mp h1).1
  have same : ∀ {l : Nat} {sl : SV}, (ρ.set i (some sv'))[l]? = some (some sl) → l ≠ i → ρ[l]? = some (some sl) := fun {l sl} e hne => by rwa [List.getElem?_set_ne (Ne.symm hne)] at e
  refine ⟨⟨kp.ex, by rw [List.length_set]; exact S.len, fun l sl e => ?_, fun l m sl sm a g1 o1 g2 o2 g3 g4 => ?_⟩, ⟨kp.bb, fun a o g1 g2 g3 => ?_, kp.dom, fun c r g1 g2 g3 => ?_⟩⟩
  · by_cases hli : l = i
    · subst hli
      rw [List.getElem?_set_self hl] at e; cases e
      exact ⟨_, h2, h3⟩
    · obtain ⟨v, f1, f2⟩ := S.slot l sl (same e hli)
      refine ⟨v, f1, f2.later kp.bb (fun ow a o ha k1 k2 => kp.fr a o ?_ k1 k2) fun t a ha c k1 k2 => kp.gh c a ?_ k1 k2⟩
      · rintro rfl
        exact hli (S.dis l i sl sv a (same e hli) ow h1 ho (by rw [f1, ha]) h2)
      · rintro rfl
        exact hli (S.dis l i sl sv a (same e hli) (by cases sl <;> first | rfl | cases t) h1 ho (by rw [f1, ha]) h2)
  · by_cases hli : l = i
    · by_cases hmi : m = i
      · rw [hli, hmi]
      · subst hli
        rw [h2] at g3; cases g3
        exact S.dis l m sv sm _ h1 ho (same g2 hmi) o2 h2 g4
    · by_cases hmi : m = i
      · subst hmi
        rw [h2] at g4; cases g4
        exact S.dis l m sl sv _ (same g1 hli) o1 h1 ho g3 h2
      · exact S.dis l m sl sm a (same g1 hli) o1 (same g2 hmi) o2 g3 g4
  · have hne : a ≠ p := by rintro rfl; exact g3 own_p
    obtain ⟨m1, m2⟩ := kp.fr a o hne g1 g2
    refine ⟨m1, m2, fun ⟨l, sl, f1, f2, f3⟩ => ?_⟩
    by_cases hli : l = i
    · subst hli
      rw [h2] at f3; cases f3
      exact g3 own_p
    · exact g3 ⟨l, sl, same f1 hli, f2, f3⟩
  · have hne : r ≠ p := by rintro rfl; exact g3 own_p
    obtain ⟨m1, m2⟩ := kp.gh c r hne g1 g2
    refine ⟨m1, m2, fun ⟨l, sl, f1, f2, f3⟩ => ?_⟩
    by_cases hli : l = i
    · subst hli
      rw [h2] at f3; cases f3
      exact g3 own_p
    · exact g3 ⟨l, sl, same f1 hli, f2, f3⟩
end
section
variable {X : Cx} {W : WX} {p pos : Pos} {x : Str} {e : Expr} {es : List Expr} {As : Rho → Rs (List RV)} {k j : Nat} {f : Addr} {fd : FuncData} {ps : List Str} {fn : List D → List D → RetM}
theorem fe_callM2 (Fn : FnOk X.prog X.w X.K X.mg X.base CX0 k f fd ps (spM X.K j fn)) (hr : Room k X.A) (hg : Gl X x) (hm : X.mg x = some (.ref f)) (hk : PySem.W.keepIn X.K (.ref f) = true) (hb : Binds X.K fd ps [])
    (ha : FA X W (e :: es) As) (hdb : (x == ("__debug__" : Str)) = false := by decide) (he : starEach (e :: es) X.env = (false, eval e X.env) :: starEach es X.env := by rfl) (hpl : (backTo pos (starEach es X.env)).any (·.1) = false := by rfl) :
    FE X W (.Call (.Name x p) (e :: es) [] pos) (eCallM j fn As) := by
  obtain ⟨t, pa, oa⟩ := ha.ex
  refine ⟨_, pe_call Fn hr hg hm hk hb (.nil : Vals [] []) pass0 pa hdb he hpl, fun B H σ ρ Q S post => ?_⟩
  refine oa B H σ ρ _ S (post.bind0 fun rs ρ1 B1 H1 S1 st1 f1 post1 vs hvs => ?_)
  rw [List.append_nil]
  split at post1
  · rename_i i ej
    obtain ⟨v, ev, hv1, sv1, hv2⟩ := rvl_at hvs.1 ej
    -- the cell is an address
    have key : ∀ (sv : SV) (mk : List D → SV) (xs : List D), (∀ ys, (mk ys).owned = true ∧ (mk ys).isT = false) → (frzs (rs.set j (.d .non)) ρ1)[i]? = some (some (mk xs)) → (∀ {B : Hp} {H : Hp} {v : V} {ys : List D}, SVr X.K B H (mk ys) v → ∃ p ws, v = .ref p ∧ B p = none ∧ H p = some (.lst ws) ∧ RpL X.K B ys ws) →
        (∀ {B B' H H' : Hp} {p : Addr} {ws : List V} {ys : List D}, SVr X.K B H (mk xs) (.ref p) → B' p = none → H' p = some (.lst ws) → RpL X.K B' ys ws → SVr X.K B' H' (mk ys) (.ref p)) →
        Post X.K W B H σ ρ (fun B' H' ρ' r => ∀ v, RVr X.K H B' H' σ ρ' r v → Q v H') (match fn ((rs.set j (.d .non)).map (view ρ1)) xs with | .ok sv xs' => .ok (rvOf sv) ((frzs (rs.set j (.d .non)) ρ1).set i (some (mk xs'))) | .err => .err) → spM X.K j fn vs H1 Q fun _ _ _ => False := by
      intro sv mk xs hown0 ei hget hput post2
      have hown := fun ys => (hown0 ys).1
      have e1 := frzs_still ei (hown xs)
      obtain ⟨v', g1, g2⟩ := S1.slot i _ e1
      rw [hv1] at g1; cases g1
      obtain ⟨q, ws0, rfl, _, _, _⟩ := hget g2
      obtain ⟨l1, l2⟩ := rvl_setD (d := pl q) (p := q) (i := i) hvs.1 ej ev ⟨rfl, .inl ⟨rfl, rfl⟩⟩
      obtain ⟨B2, x2, S2, st2, f2, rp, new2, own2⟩ := takes S1 st1 l1 (by rw [l2]; exact hvs.2)
      rw [frzs_set (d' := .non)] at S2 st2 f2
      obtain ⟨v2, k1, k2⟩ := S2.slot i _ ei
      rw [hv1] at k1; cases k1
      obtain ⟨q', ws, eq, hb0, hp0, rx⟩ := hget k2
      cases eq
      have hj : j < rs.length := (List.getElem?_eq_some_iff.mp ej).1
      refine ⟨B2, rs.map (view ρ1), xs, q, ws, S2.ex, hb0, hp0, rx, by rw [List.length_map]; exact hj, ?_, ?_⟩
      · have : (rs.set j (.d (pl q))).map (view ρ1) = (rs.map (view ρ1)).set j (pl q) := by rw [List.map_set]; rfl
        rwa [this] at rp
      · have : (rs.map (view ρ1)).set j .non = (rs.set j (.d .non)).map (view ρ1) := by rw [List.map_set]; rfl
        rw [this]
        cases ef : fn ((rs.set j (.d .non)).map (view ρ1)) xs with
        | err => rw [ef] at post2; exact post2.elim
        | ok sv2 xs' =>
          rw [ef] at post2
          intro B' H' v3 ws' kp hb' hp' rx' hsv hown2
          obtain ⟨S3, st3⟩ := S2.keptM ei (hown xs) hv1 kp (hput k2 hb' hp' rx') (hown xs')
          refine post2 B' H' S3 (st2.trans st3) ((f1.trans f2).trans fun l sl hl nt => ?_) v3 (rvOf_rvr hsv fun ow => ?_)
          · by_cases hli : i = l
            · subst hli
              exact ⟨_, List.getElem?_set_self (List.getElem?_eq_some_iff.mp hl).1, (hown0 _).2⟩
            · exact ⟨sl, by rw [List.getElem?_set_ne hli]; exact hl, nt⟩
          · obtain ⟨nt, a, h1, h2⟩ := hown2 ow
            refine ⟨nt, a, h1, st1.dom a h2, fun z => ?_⟩
            obtain ⟨l, sl, z1, z2, z3⟩ := z
            obtain ⟨vl, y1, y2⟩ := S3.slot l sl z1
            rw [z3] at y1; cases y1
            by_cases hli : l = i
            · subst hli
              rw [hv1] at z3; cases z3
              rw [h2] at hp0; cases hp0
            · rw [List.getElem?_set_ne (Ne.symm hli)] at z1
              obtain ⟨vl2, y3, y4⟩ := S2.slot l sl z1
              rw [z3] at y3; cases y3
              obtain ⟨a2, u, c1, c2, _⟩ := y4.cell z2
              cases c1
              rw [h2] at c2; cases c2
    split at post1
    · rename_i xs ei
      exact key (.l xs) SV.l xs (fun _ => ⟨rfl, rfl⟩) ei (fun ⟨a, ws, h1, h2, h3, h4⟩ => ⟨a, ws, h1, h2, h3, h4⟩) (fun _ h2 h3 h4 => ⟨_, _, rfl, h2, h3, h4⟩) post1
    · rename_i q xs ei
      exact key (.a q xs) (SV.a q) xs (fun _ => ⟨rfl, rfl⟩) ei (fun ⟨h1, h2, ws, h3, h4⟩ => ⟨_, ws, h1, h2, h3, h4⟩) (fun h1 h2 h3 h4 => by obtain ⟨e1, _⟩ := h1; cases e1; exact ⟨rfl, h2, _, h3, h4⟩) post1
    · exact post1.elim
  · exact post1.elim
end
/-! ### x.append(e), x the callee's own name of a list that it changes -/
section
variable {X : Cx} {W : WX} {pos : Pos} {e : Expr} {F : Rho → Rs RV}
def sAppA (i : Nat) (a : Rho → Rs RV) : Rho → Out := fun ρ => match ρ[i]? with
  | some (some (.a _ _)) => (a ρ).thn fun r ρ1 => match (frz r ρ1)[i]? with
    | some (some (.a q xs)) => if xs.length < 100000 then .nx ((frz r ρ1).set i (some (.a q (xs ++ [view ρ1 r])))) else .err
    | _ => .err
  | _ => .err
theorem fs_appendA {i : Nat} {x : Str} {p1 p2 p3 : Pos} (hN : X.N[i]? = some x) (hv : Vis X.env.scope x) (h : FE X W e F)
    (hbase : attributeBase (.Name x p1) "append" X.env (eval (.Name x p1) X.env) = eval (.Name x p1) X.env := by rfl)
    (hfew : ((backTo p3 (starEach [e] X.env)).all (fun x => !x.1) && (backToKw p3 (keywordEach [] X.env)).all (fun x => x.1.isSome)
      && decide (([e] : List Expr).length + ([] : List Keyword).length + (if ([] : List Keyword).isEmpty then 0 else 1) < 30)) = true := by rfl)
    (hline : (p2.endLine == p3.line) = true := by rfl) (hs : starEach [e] X.env = (false, eval e X.env) :: starEach [] X.env := by rfl) (hplain : (backTo p3 (starEach [] X.env)).any (·.1) = false := by rfl)
    (hsw : swapsWith (.Call (.Attribute (.Name x p1) "append" p2) [e] [] p3) none pos.line X.env = pure false := by rfl)
    (hd : (x == ("__debug__" : Str)) = false := by decide) (hcd : (x == ("__classdict__" : Str)) = false := by decide) :
    FS X W (.Expr (.Call (.Attribute (.Name x p1) "append" p2) [e] [] p3) pos) (sAppA i F) := by
  obtain ⟨t, p, o⟩ := h.ex
  refine ⟨_, ps_expr (pe_bm PySem.F.plainAttrs_list PySem.F.slot_list_append PySem.F.type_list_append mt_append (pe_var hN hv hd hcd) (pa_cons p pa_nil hs) hbase hfew hline hs hplain) hsw, fun B H σ ρ D S post => ?_⟩
  unfold sAppA at post
  split at post
  · rename_i a xs0 e0
    obtain ⟨v0, ha, rfl, q1, vs0, q2, q3⟩ := S.slot i _ e0
    refine ⟨.ref a, ha, .inl ⟨rfl, vs0, SqL.of q2⟩, ?_⟩
    refine o B H σ ρ _ S (post.ahead fun r ρ1 B1 H1 S1 st1 f1 post1 v hv => ?_)
    obtain ⟨B2, x2, S2, st2, rp, _⟩ := take1 S1 st1 hv
    split at post1
    · rename_i q xs e1
      split at post1
      · rename_i hl
        obtain ⟨v', e2, e3⟩ := S2.slot i _ e1
        obtain ⟨rfl, e5, vs, e6, e7⟩ := e3
        rw [ha] at e2; cases e2
        refine ⟨a, vs, v, rfl, rfl, e6, line_lt (by rw [e7.length]; exact hl), ?_⟩
        obtain ⟨S3, st3⟩ := mutS (sv' := .a a (xs ++ [view ρ1 r])) (o := .lst (vs ++ [v])) S2 e1 rfl ha ⟨rfl, e5, _, upd_same, e7.append (RpL.cons rp RpL.nil)⟩ rfl
        exact post1 B2 _ σ S3 (st2.trans st3)
      · exact post1.elim
    · exact post1.elim
  · exact post.elim
end
end FP
namespace FP
open PySem PySem.W PySem.Calls PyProof.Rows
theorem hu2 {k : Nat} {A : Around} (hr : L2.Room k A) : A.units + 2 < cLine := by have := hr.un; omega
/-- an own error with fields, from what is written -/
theorem errT_mk {P : Program} {K : Frag} {mg : Str → Option Value} {C fI : Addr} {fs : List Str} {st : Stmt} {qual : Str}
    {nm q : Str} {N : Addr} {bs bm : List Value} {sn : List Str} {sub : List Value} {ab : Bool} {col : Option Bool} {dd : Option Addr} {k0 k1 k2 k3 k5 : Option Value}
    {oc : Value} {od : Option Addr} {kV doc pm : Value} {an : Option Addr} {cda : Addr} {ct : Value} {osl : Array (Option Value)} {cc : Addr} {cl : Value} {cld : Option Addr} {csl : Array (Option Value)}
    {ccl : Value} {cdd : Option Addr} {vs : Array Value} {ccs : Array (Option Value)} {file : Str} {tf : Tok}
    (gC : mg "super" = none)
    (cls : K.lookup C = some (excClassObj nm q C N bs bm true sn sub ab col dd k0 k1 k2 k3 k5 "ValueError.__new__")) (rv : HandSPX.refsVE bm = true)
    (sa : findIn K (.ref C) "__setattr__" = some (some (.builtin "object.__setattr__"))) (noN : ∀ f ∈ fs, findIn K (.ref C) f = some none)
    (iC : findIn K (.ref C) "__init__" = some (some (.ref fI))) (tI : typeIn K (.ref fI) = some (.type "function")) (kC : keepIn K (.ref C) = true)
    (exC : subIn K (.ref C) (.type "BaseException") = some true) (tyC : typeIn K (.ref C) = some (.type "type")) (own : mroIn K C (.ref C) = some true)
    (sup : ks_superIn K C C "__init__" = some (some (.builtin "ValueError.__init__"))) (subV : subIn K (.ref C) (.type "ValueError") = some true) (th : nsIn K cStatics "thirdparty.any" = some none)
    (lI : K.lookup fI = some ⟨oc, od, .func (ksFn "__init__" qual (L2.defArgs st) (L2.defBody st) (L2.defScope st) .none kV doc pm an (.ref cda) ct cc), osl⟩) (cI : codeIn K (.ref cda) qual = true)
    (lc : K.lookup cc = some ⟨cl, cld, .cell (some (.ref C)), csl⟩) (ld : K.lookup cda = some ⟨ccl, cdd, .fields vs, ccs⟩) (hvs : vs[2]? = some (.str file tf))
    (hfile : ((P.main.file : Str) == file) = true) (top : (P.main.scope.names.lookup ("super" : Str)).isSome = false)
    (nd : ((("self" : Str)) :: fs).Nodup) (har : ∃ ar, ((L2.defArgs st).posonlyargs ++ (L2.defArgs st).args).head? = some ar ∧ ar.arg = "self")
    (hb : ∀ (s : Shared) (x : Value) (us : List Value), us.length = fs.length → BindsTo s (ksFn "__init__" qual (L2.defArgs st) (L2.defBody st) (L2.defScope st) .none kV doc pm an (.ref cda) ct cc) ⟨x :: us, []⟩ (("self", x) :: fs.zip us))
    (hbo : ∃ (txt : Str) (j : Nat) (q1 q2 q3 q4 q5 q6 : Pos) (l : List (Str × FPos)), l.map (·.1) = fs ∧ L2.defBody st = iSup txt j q1 q2 q3 q4 q5 q6 :: l.map iSt ∧ ∀ L, SupEv txt j q1 q2 q3 q4 q5 q6 (ksEnv qual (L2.defScope st) L fI (.ref cda) cc))
    (h1 : (L2.defScope st).kind = .function) (h2 : (L2.defScope st).isCoroutine = false) (h3 : (L2.defScope st).isGenerator = false) (h4 : ∀ x ∈ (L2.defScope st).names, x.2 ≠ .cell) (h5 : ∀ f ∈ ("self" : Str) :: fs, (L2.defScope st).names.lookup f = some .local)
    (h6 : (L2.defScope st).names.lookup ("super" : Str) = some .globalImplicit) (h7 : (L2.defScope st).names.lookup ("__class__" : Str) = some .free) : ErrT P K mg C fI fs where
  gC := gC
  cls := ⟨_, _, _, _, _, _, _, _, _, _, _, _, _, _, _, cls, rv⟩
  sa := sa
  noN := noN
  iC := iC
  tI := tI
  kC := kC
  exC := exC
  tyC := tyC
  own := own
  sup := sup
  subV := subV
  th := th
  nd := nd
  top := top
  fn := ⟨_, _, _, _, _, _, _, _, _, _, _, _, _, _, _, _, _, lI, cI, lc, ⟨_, _, _, _, _, _, ld, hvs, hfile⟩, har, hb, hbo, h1, h2, h3, h4, h5, h6, h7⟩
end FP
namespace FP
open PySem L2
/-! ## What the further combinators do -/
section
variable {ρ : Rho} {a f o : Rho → Rs RV} {as ks : Rho → Rs (List RV)} {C : Addr} {m nm : Str} {fn : List D → Ret} {fs : List Str} {i j : Nat}
@[simp] theorem eMaxD_ev : eMaxD as ks ρ = (as ρ).bind fun rs ρ1 => (ks ρ1).bind fun zs ρ2 => match rs.map (view ρ2), zs.map (view ρ2) with
  | [d], [.int n] => match fMaxD n d with
    | some m => .ok (.d m) ρ2
    | none => .err
  | _, _ => .err := of_rfl rfl
@[simp] theorem eMethX_ev : eMethX C m fn o as ρ = (o ρ).bind fun r ρ1 => match view ρ1 r with
  | .ins C' fs => if C' = C ∧ fs.lookup m = none then (as ρ1).bind fun rs ρ2 => ofRetX (fn ((r :: rs).map (view ρ2) ++ [])) (r :: rs) ρ2 else .err
  | _ => .err := of_rfl rfl
@[simp] theorem eCallX_ev : eCallX fn as ρ = (as ρ).bind fun rs ρ1 => ofRetX (fn (rs.map (view ρ1) ++ [])) rs ρ1 := of_rfl rfl
@[simp] theorem eCallKX_ev : eCallKX fn as ks ρ = (as ρ).bind fun rs ρ1 => (ks ρ1).bind fun zs ρ2 => ofRetX (fn ((rs ++ zs).map (view ρ2) ++ [])) (rs ++ zs) ρ2 := of_rfl rfl
@[simp] theorem ofRetX_ok {sv : SV} {rs : List RV} : ofRetX (.ok sv) rs ρ = .ok (rvOf sv) (if sv.lf then ρ else frzs rs ρ) := of_rfl rfl
@[simp] theorem ofRetX_exc {x : Exn} {rs : List RV} : ofRetX (.exc x) rs ρ = .exc x (frzs rs ρ) := of_rfl rfl
@[simp] theorem eCallO_ev : eCallO C fn o as ρ = (o ρ).bind fun r ρ1 => match view ρ1 r with
  | .ins _ _ => (as ρ1).bind fun rs ρ2 => match view ρ2 r with
    | .ins C' fs => if C' = C then ofRet (fn ((r :: rs).map (view ρ2) ++ [])) (r :: rs) ρ2 else .err
    | _ => .err
  | _ => .err := of_rfl rfl
@[simp] theorem eCallM_ev {fn : List D → List D → RetM} : eCallM j fn as ρ = (as ρ).bind fun rs ρ1 => match rs[j]? with
  | some (.slot i) => match (frzs (rs.set j (.d .non)) ρ1)[i]? with
    | some (some (.l xs)) => match fn ((rs.set j (.d .non)).map (view ρ1)) xs with
      | .ok sv xs' => .ok (rvOf sv) ((frzs (rs.set j (.d .non)) ρ1).set i (some (.l xs')))
      | .err => .err
    | some (some (.a p xs)) => match fn ((rs.set j (.d .non)).map (view ρ1)) xs with
      | .ok sv xs' => .ok (rvOf sv) ((frzs (rs.set j (.d .non)) ρ1).set i (some (.a p xs')))
      | .err => .err
    | _ => .err
  | _ => .err := of_rfl rfl
@[simp] theorem sRaiseF_ev : sRaiseF C nm fs as ρ = (as ρ).thn fun rs ρ1 => if rs.length = fs.length then .exc ⟨.ref C, (fs.zip (rs.map (view ρ1))).reverse, nm⟩ (frzs rs ρ1) else .err := of_rfl rfl
@[simp] theorem sRaise_ev {x : Exn} : sRaise x ρ = .exc x ρ := of_rfl rfl
@[simp] theorem sAppA_ev : sAppA i a ρ = match ρ[i]? with
  | some (some (.a _ _)) => (a ρ).thn fun r ρ1 => match (frz r ρ1)[i]? with
    | some (some (.a q xs)) => if xs.length < 100000 then .nx ((frz r ρ1).set i (some (.a q (xs ++ [view ρ1 r])))) else .err
    | _ => .err
  | _ => .err := of_rfl rfl
@[simp] theorem toD_a {p : Addr} {xs : List D} : (SV.a p xs).toD = .lst xs := of_rfl rfl
@[simp] theorem noX_nx : noX (.nx ρ) = .nx ρ := of_rfl rfl
@[simp] theorem noX_rt {r : RV} : noX (.rt r ρ) = .rt r ρ := of_rfl rfl
@[simp] theorem clrO_nx : clrO i (.nx ρ) = .nx (ρ.set i none) := of_rfl rfl
@[simp] theorem clrO_rd {d : D} : clrO i (.rt (.d d) ρ) = .rt (.d d) (ρ.set i none) := of_rfl rfl
@[simp] theorem clrO_ct : clrO i (.ct ρ) = .ct (ρ.set i none) := of_rfl rfl
/-- a clause without a name whose suite does not look at the exception -/
theorem end_anon {tab : List (Str × Value × Bool)} {F : Rho → Out} {x : Exn} : Hnd.end ⟨tab, none, fun _ _ _ => F⟩ x ρ = noX (F ρ) := by
  unfold Hnd.end Hnd.at
  simp
/-- a clause with a name -/
theorem end_named {tab : List (Str × Value × Bool)} {F : Addr → Value → Option Addr → Rho → Out} {x : Exn} {r : Out} (hi : i < ρ.length) (h : ∀ a d, clrO i (F a x.cls d (ρ.set i (some (.p (.exn a x.cls d x.fs))))) = r) : Hnd.end ⟨tab, some i, F⟩ x ρ = r := by
  unfold Hnd.end Hnd.at
  simp only [hi, if_true, h, implies_true]
@[simp] theorem hands_nil {x : Exn} : hands [] x ρ = .exc x ρ := of_rfl rfl
@[simp] theorem hands_cons {h : Hnd} {r : List Hnd} {x : Exn} : hands (h :: r) x ρ = match h.tab.lookup x.nm with
    | some (v, b) => if x.cls = v then (if b then h.end x ρ else hands r x ρ) else .err
    | none => .err := of_rfl rfl
theorem exnAt_ev {a : Addr} {cls : Value} {d : Option Addr} {fs : List (Str × D)} (h : ρ[i]? = some (some (.p (.exn a cls d fs)))) : exnAt a cls d i ρ = some fs := by
  unfold exnAt
  rw [h]
  simp
theorem eXf_ev {a C : Addr} {d : Option Addr} {fs : List (Str × D)} {f : Str} {v : D} (h : ρ[i]? = some (some (.p (.exn a (.ref C) d fs)))) (hv : fs.lookup f = some v) : eXf a (.ref C) d i C f ρ = .ok (.d v) ρ := by
  unfold eXf
  rw [exnAt_ev h]
  simp [hv]
theorem eXi_ev {a C : Addr} {d : Option Addr} {fs : List (Str × D)} {b : Bool} (h : ρ[i]? = some (some (.p (.exn a (.ref C) d fs)))) : eXi a (.ref C) d i C b ρ = .ok (.d (.bl b)) ρ := by
  unfold eXi
  rw [exnAt_ev h]
  simp
end
theorem runF_wpQ {n k : Nat} {G : Rho → Out} {ds : List D} {P : Ret → Prop} (hl : ds.length = k) (h : ∀ Q : Out → Prop, Q = (fun o => match o with
    | .nx _ => P (.ok (.p .non))
    | .rt r ρ => P (.ok (svOf ρ r))
    | .exc x _ => P (.exc x)
    | _ => False) → Endg Q (G (startR n ds))) : ∃ r, runF n k G ds = r ∧ P r := by
  have h := h _ rfl
  unfold runF
  rw [if_pos hl]
  cases e : G (startR n ds) with
  | err => rw [e] at h; exact h.elim
  | nx ρ => rw [e] at h; exact ⟨_, rfl, h⟩
  | rt r ρ => rw [e] at h; exact ⟨_, rfl, h⟩
  | bk ρ => rw [e] at h; exact h.elim
  | ct ρ => rw [e] at h; exact h.elim
  | exc x ρ => rw [e] at h; exact ⟨_, rfl, h⟩
theorem endg_try {Q : Out → Prop} {body : Rho → Out} {hs : List Hnd} {ρ : Rho} (h : Endg (fun o => match o with
      | .exc x ρ1 => Endg Q (hands hs x ρ1)
      | .err => False
      | o => Q o) (body ρ)) : Endg Q (sTry body hs ρ) := by
  unfold sTry
  cases e : body ρ with
  | err => rw [e] at h; exact h.elim
  | nx ρ => rw [e] at h; exact h
  | rt r ρ => rw [e] at h; exact h
  | bk ρ => rw [e] at h; exact h
  | ct ρ => rw [e] at h; exact h
  | exc x ρ => rw [e] at h; exact h
theorem fnM_ok {n k j : Nat} {G : Rho → Out} {ds xs xs' : List D} {sv : SV} (hl : ds.length = k) (h : ∀ p (Q : Out → Prop), Q = (fun o => endM j p o = .ok sv xs') → Endg Q (G (startM n j p ds xs))) : fnM n k j G ds xs = .ok sv xs' := by
  have h1 : ∀ p, runM n k j G p ds xs = .ok sv xs' := fun p => by
    unfold runM
    rw [if_pos hl]
    exact h p _ rfl
  unfold fnM
  rw [if_pos (fun p => (h1 p).trans (h1 0).symm)]
  exact h1 0
theorem endM_nx {j : Nat} {p : Addr} {ρ : Rho} {xs : List D} (h : ρ[j]? = some (some (.a p xs))) : endM j p (.nx ρ) = .ok (.p .non) xs := by
  unfold endM
  simp [h]
end FP
namespace FP
open PySem L2
/-! ## range(a, b, c) upwards -/
section
variable {X : Cx} {W : WX} {tg a b c : Expr} {p pos : Pos} {A Bf Cf : Rho → Rs RV}
def rszU (m n c : Int) : Nat := (Builtin.Range.rangeSize m n c).toNat
theorem rszU_eq {m n c : Int} (hc : 0 < c) : Builtin.Range.rangeSize m n c = (rszU m n c : Nat) := by
  unfold rszU Builtin.Range.rangeSize
  rw [if_pos (by omega)]
  split
  · have : 0 ≤ (n - m - 1) / c := Int.ediv_nonneg (by omega) (by omega)
    omega
  · omega
theorem rgC_up {m n c : Int} (l1 : -LIM ≤ m ∧ m < LIM) (l2 : -LIM ≤ n ∧ n < LIM) (hc : 0 < c) (hc' : c < 1073741824) : RgC m n c (rszU m n c) := by
  unfold LIM at l1 l2
  refine ⟨by omega, by omega, ?_, rszU_eq hc⟩
  have hz : 0 ≤ Builtin.Range.rangeSize m n c ∧ Builtin.Range.rangeSize m n c ≤ 2 ^ 62 := by
    unfold Builtin.Range.rangeSize
    rw [if_pos (by omega)]
    split
    · have h1 : 0 ≤ (n - m - 1) / c := Int.ediv_nonneg (by omega) (by omega)
      have h2 : (n - m - 1) / c ≤ n - m - 1 := Int.ediv_le_self _ (by omega)
      omega
    · omega
  unfold Builtin.Range.small
  generalize Builtin.Range.rangeSize m n c = z at hz
  have e : c > 0 := hc
  simp only [Builtin.Range.rangeFitsLong, Bool.and_eq_true, Bool.or_eq_true, decide_eq_true_eq, beq_iff_eq, e, if_true]
  omega
def iRngU (f g k : Rho → Rs RV) : Rho → Rs (List D) := fun ρ => (f ρ).bind fun r ρ1 => (g ρ1).bind fun q ρ2 => (k ρ2).bind fun u ρ3 => match view ρ3 r, view ρ3 q, view ρ3 u with
  | .int m, .int n, .int c => if ((-LIM ≤ m ∧ m < LIM) ∧ -LIM ≤ n ∧ n < LIM) ∧ 0 < c ∧ c < 1073741824 then .ok (rngC m c (rszU m n c)) ρ3 else .err
  | _, _, _ => .err
theorem fi_rngU (hg : Gl X "range") (hm : X.mg "range" = none) (h : FE X W a A) (h' : FE X W b Bf) (h'' : FE X W c Cf) (hs3 : starEach [c] X.env = (false, eval c X.env) :: starEach [] X.env := by rfl) (hs2 : starEach [b, c] X.env = (false, eval b X.env) :: starEach [c] X.env := by rfl)
    (hs : starEach [a, b, c] X.env = (false, eval a X.env) :: starEach [b, c] X.env := by rfl) (hpl : (backTo pos (starEach [b, c] X.env)).any (·.1) = false := by rfl) :
    FI X W tg (.Call (.Name "range" p) [a, b, c] [] pos) (iRngU A Bf Cf) := by
  obtain ⟨t, pe, o⟩ := h.ex
  obtain ⟨t', pe', o'⟩ := h'.ex
  obtain ⟨t'', pe'', o''⟩ := h''.ex
  refine ⟨_, pi_range3 hg hm (pa_cons pe (pa_cons pe' (pa_cons pe'' pa_nil hs3) hs2) hs) hs hpl, fun B H σ ρ R S post => ?_⟩
  refine o B H σ ρ _ S (post.bind0 fun r ρ1 B1 H1 S1 st1 f1 post1 v hv => ?_)
  refine o' B1 H1 σ ρ1 _ S1 (post1.bind st1 f1 fun q ρ2 B2 H2 S2 st2 f2 post2 w hw => ?_)
  refine o'' B2 H2 σ ρ2 _ S2 (post2.bind (st1.trans st2) (f1.trans f2) fun u ρ3 B3 H3 S3 st3 f3 post3 z hz => ?_)
  split at post3
  · rename_i m n c e1 e2 e3
    split at post3
    · rename_i hl
      have g := ((hv.later st2 f2).later st3 f3).view S3
      rw [e1] at g
      cases rp_int g
      have g := (hw.later st3 f3).view S3
      rw [e2] at g
      cases rp_int g
      have g := hz.view S3
      rw [e3] at g
      cases rp_int g
      obtain ⟨⟨l1, l2⟩, c1, c2⟩ := hl
      exact ⟨m, n, c, _, rfl, rgC_up l1 l2 c1 c2, post3 B3 H3 S3 ((st1.trans st2).trans st3) ((f1.trans f2).trans f3) _ yl_rngC⟩
    · exact post3.elim
  · exact post3.elim
def rngUR (m n c : Int) (ρ : Rho) : Rs (List D) := if ((-LIM ≤ m ∧ m < LIM) ∧ -LIM ≤ n ∧ n < LIM) ∧ 0 < c ∧ c < 1073741824 then .ok (rngC m c (rszU m n c)) ρ else .err
@[simp] theorem iRngU_ev {f g k : Rho → Rs RV} {ρ : Rho} : iRngU f g k ρ = (f ρ).bind fun r ρ1 => (g ρ1).bind fun q ρ2 => (k ρ2).bind fun u ρ3 => match view ρ3 r, view ρ3 q, view ρ3 u with
  | .int m, .int n, .int c => rngUR m n c ρ3
  | _, _, _ => .err := of_rfl rfl
@[simp] theorem rngUR_ev {m n c : Int} {ρ : Rho} (h1 : -1152921504606846976 ≤ m) (h2 : m < 1152921504606846976) (h3 : -1152921504606846976 ≤ n) (h4 : n < 1152921504606846976) (h5 : 0 < c) (h6 : c < 1073741824) : rngUR m n c ρ = .ok (rngC m c (rszU m n c)) ρ := by
  unfold rngUR LIM
  rw [if_pos (by omega)]
end
end FP

/-! ## a text times an int -/
namespace FP
open PySem L2
section
variable {X : Cx}
theorem op_repS : OpR X (binaryOp .Mult) (fun x y H Q => ∃ s k, x = .str s ∧ y = .int k ∧ s.length ≤ 1000 ∧ -1000 ≤ k ∧ k ≤ 1000 ∧ Q (.str (Txt.mul s k)) H) := by
  intro pins s σ H x y v u Q I rx ry h
  obtain ⟨i, j, rfl, rfl, h1, h2, h3, q⟩ := h
  obtain ⟨t, rfl⟩ := rx
  obtain ⟨t', rfl⟩ := ry
  exact SB.mul (PyProof.Rows.mulOk_of 1000 1000 h1 (by omega) (by omega) (by decide) (by decide)) (fun t' tk => ⟨.str (Txt.mul i j), H, I.tok _, ⟨_, rfl⟩, q⟩)
def oMulS : D → D → Option D
  | .str s, .int k => if s.length ≤ 1000 ∧ -1000 ≤ k ∧ k ≤ 1000 then some (.str (Txt.mul s k)) else none
  | _, _ => none
theorem o2_mulS : Op2 X (binaryOp .Mult) oMulS := by
  refine ⟨_, op_repS, fun H x y dx dy d Q hx hy e k => ?_⟩
  unfold oMulS at e; split at e
  · split at e <;> cases e
    rename_i h
    cases rp_str hx
    cases rp_int hy
    exact ⟨_, _, rfl, rfl, h.1, h.2.1, h.2.2, k _ fun _ => rfl⟩
  · cases e
end
end FP

/-! ## list(range(..)) -/
namespace FP
open PySem L2
section
variable {X : Cx} {W : WX} {a b : Expr} {p pos p' pos' : Pos} {F G : Rho → Rs RV}
theorem rpl_map {K : PySem.W.Frag} {B : Hp} {α : Type} {f : α → D} {g : α → V} (h : ∀ x, Rp K B (f x) (g x)) : ∀ xs : List α, RpL K B (xs.map f) (xs.map g)
  | [] => rfl
  | x :: xs => .cons (h x) (rpl_map h xs)
theorem rpl_rg {K : PySem.W.Frag} {B : Hp} {lo hi : Int} : RpL K B (rngD lo (hi - lo).toNat) (rgV lo hi) := rpl_map (f := fun i : Nat => D.int (lo + (i : Nat))) (g := fun i : Nat => V.int (lo + (i : Nat))) (fun _ => rfl) _
def eLstRg1 (f : Rho → Rs RV) : Rho → Rs RV := fun ρ => (f ρ).bind fun r ρ1 => match view ρ1 r with
  | .int n => if -LIM ≤ n ∧ n ≤ 100000 then .ok (.own (.l (rngD 0 (n - 0).toNat))) ρ1 else .err
  | _ => .err
def eLstRg2 (f g : Rho → Rs RV) : Rho → Rs RV := fun ρ => (f ρ).bind fun r ρ1 => (g ρ1).bind fun q ρ2 => match view ρ2 r, view ρ2 q with
  | .int m, .int n => if 0 ≤ m ∧ m ≤ 100000 ∧ 0 ≤ n ∧ n ≤ 100000 then .ok (.own (.l (rngD m (n - m).toNat))) ρ2 else .err
  | _, _ => .err
theorem fe_lstRg1 (hc : X.calm = true) (hgl : Gl X "list") (hml : X.mg "list" = none) (hg : Gl X "range") (hm : X.mg "range" = none) (h : FE X W a F) (hs : starEach [a] X.env = (false, eval a X.env) :: starEach [] X.env := by rfl)
    (hs' : starEach [.Call (.Name "range" p') [a] [] pos'] X.env = (false, eval (.Call (.Name "range" p') [a] [] pos') X.env) :: starEach [] X.env := by rfl) :
    FE X W (.Call (.Name "list" p) [.Call (.Name "range" p') [a] [] pos'] [] pos) (eLstRg1 F) := by
  obtain ⟨t, pe, o⟩ := h.ex
  refine ⟨_, pe_listRg hc hgl hml (prg_1 hg hm pe hs) hs', fun B H σ ρ Q S post => ?_⟩
  refine o B H σ ρ _ S (post.bind0 fun r ρ1 B1 H1 S1 st1 f1 post1 v hv => ?_)
  split at post1
  · rename_i n e1
    split at post1
    · rename_i hl
      have g := hv.view S1
      rw [e1] at g
      cases rp_int g
      unfold LIM at hl
      refine ⟨n, rfl, ⟨by omega, by omega, by omega, by omega, by omega⟩, fun p hp => ?_⟩
      exact post1 _ _ (S1.new hp) (st1.trans (Step.new S1 hp)) f1 _ ⟨rfl, ⟨p, _, rfl, S1.notNew hp, upd_same, rpl_rg⟩, rfl, p, rfl, st1.dom p hp, S1.notOwn hp⟩
    · exact post1.elim
  · exact post1.elim
theorem fe_lstRg2 (hc : X.calm = true) (hgl : Gl X "list") (hml : X.mg "list" = none) (hg : Gl X "range") (hm : X.mg "range" = none) (h : FE X W a F) (h' : FE X W b G) (hs : starEach [a, b] X.env = (false, eval a X.env) :: starEach [b] X.env := by rfl) (hs2 : starEach [b] X.env = (false, eval b X.env) :: starEach [] X.env := by rfl) (hpl : (backTo pos' (starEach [b] X.env)).any (·.1) = false := by rfl)
    (hs' : starEach [.Call (.Name "range" p') [a, b] [] pos'] X.env = (false, eval (.Call (.Name "range" p') [a, b] [] pos') X.env) :: starEach [] X.env := by rfl) :
    FE X W (.Call (.Name "list" p) [.Call (.Name "range" p') [a, b] [] pos'] [] pos) (eLstRg2 F G) := by
  obtain ⟨t, pe, o⟩ := h.ex
  obtain ⟨t', pe', o'⟩ := h'.ex
  refine ⟨_, pe_listRg hc hgl hml (prg_2 hg hm pe pe' hs hs2 hpl) hs', fun B H σ ρ Q S post => ?_⟩
  refine o B H σ ρ _ S (post.bind0 fun r ρ1 B1 H1 S1 st1 f1 post1 v hv => ?_)
  refine o' B1 H1 σ ρ1 _ S1 (post1.bind st1 f1 fun q ρ2 B2 H2 S2 st2 f2 post2 w hw => ?_)
  split at post2
  · rename_i m n e1 e2
    split at post2
    · rename_i hl
      have g := (hv.later st2 f2).view S2
      rw [e1] at g
      cases rp_int g
      have g := hw.view S2
      rw [e2] at g
      cases rp_int g
      refine ⟨m, n, rfl, rfl, ⟨by omega, by omega, by omega, by omega, by omega⟩, fun p hp => ?_⟩
      exact post2 _ _ (S2.new hp) ((st1.trans st2).trans (Step.new S2 hp)) (f1.trans f2) _ ⟨rfl, ⟨p, _, rfl, S2.notNew hp, upd_same, rpl_rg⟩, rfl, p, rfl, (st1.trans st2).dom p hp, S2.notOwn hp⟩
    · exact post2.elim
  · exact post2.elim
def lstRg1R (n : Int) (ρ : Rho) : Rs RV := if -LIM ≤ n ∧ n ≤ 100000 then .ok (.own (.l (rngD 0 (n - 0).toNat))) ρ else .err
def lstRg2R (m n : Int) (ρ : Rho) : Rs RV := if 0 ≤ m ∧ m ≤ 100000 ∧ 0 ≤ n ∧ n ≤ 100000 then .ok (.own (.l (rngD m (n - m).toNat))) ρ else .err
@[simp] theorem eLstRg1_ev {f : Rho → Rs RV} {ρ : Rho} : eLstRg1 f ρ = (f ρ).bind fun r ρ1 => match view ρ1 r with
  | .int n => lstRg1R n ρ1
  | _ => .err := of_rfl rfl
@[simp] theorem eLstRg2_ev {f g : Rho → Rs RV} {ρ : Rho} : eLstRg2 f g ρ = (f ρ).bind fun r ρ1 => (g ρ1).bind fun q ρ2 => match view ρ2 r, view ρ2 q with
  | .int m, .int n => lstRg2R m n ρ2
  | _, _ => .err := of_rfl rfl
@[simp] theorem lstRg1R_ev {n : Int} {ρ : Rho} (h1 : -1152921504606846976 ≤ n) (h2 : n ≤ 100000) : lstRg1R n ρ = .ok (.own (.l (rngD 0 n.toNat))) ρ := by
  unfold lstRg1R LIM
  rw [if_pos (by omega), Int.sub_zero]
@[simp] theorem lstRg2R_ev {m n : Int} {ρ : Rho} (h1 : 0 ≤ m) (h2 : m ≤ 100000) (h3 : 0 ≤ n) (h4 : n ≤ 100000) : lstRg2R m n ρ = .ok (.own (.l (rngD m (n - m).toNat))) ρ := by
  unfold lstRg2R
  rw [if_pos ⟨h1, h2, h3, h4⟩]
end
end FP

/-! ## list(range(a, b, c)) -/
namespace FP
open PySem L2
section
variable {X : Cx} {W : WX} {a b c : Expr} {p pos p' pos' : Pos} {F G E : Rho → Rs RV} {ta : TA}
def PRg3 (X : Cx) (e : Expr) (t : St → Hp → (Int → Int → Int → Hp → Prop) → Prop) : Prop :=
  ∀ (pins : List (Addr × Obj)) (s : Shared) (σ : St) (H : Hp) (Q : Int → Int → Int → Hp → Prop), Inv X pins σ H s → t σ H Q →
    wpAny (model X.prog X.w) X.A (eval e X.env) (fun x s' => ∃ r a b c t u v H', x = .ref r ∧ IsRange s'.heap r a b c t u v ∧ Inv X pins σ H' s' ∧ Q a b c H') X.xe s
def tRg3 (ta : TA) : St → Hp → (Int → Int → Int → Hp → Prop) → Prop := fun σ H Q => ta σ H fun vs H1 => ∃ i j c, vs = [.int i, .int j, .int c] ∧ c ≠ 0 ∧ c.natAbs < 1073741824 ∧ Q i j c H1
theorem prg_3 (hg : Gl X "range") (hm : X.mg "range" = none) (ha : PA X [a, b, c] ta)
    (hs : starEach [a, b, c] X.env = (false, eval a X.env) :: starEach [b, c] X.env := by rfl) (hpl : (backTo pos (starEach [b, c] X.env)).any (·.1) = false := by rfl) :
    PRg3 X (.Call (.Name "range" p) [a, b, c] [] pos) (tRg3 ta) := by
  intro pins s σ H Q I h
  refine PyProof.Rows.Call_ (ld_blt I hg hm PyProof.Rows.boot_range (PyProof.Rows.callWith_type1 (thn (ha.run pos pins s σ H _ I h) fun us s1 ⟨vs, H1, I1, r1, q1⟩ => ?_) hs hpl))
  obtain ⟨i, j, k, e, c0, c1, q⟩ := q1
  subst e
  cases r1 with
  | cons r rr =>
    cases rr with
    | cons r' rr =>
      cases rr with
      | cons r'' rr =>
        cases rr
        obtain ⟨t, rfl⟩ := r
        obtain ⟨t', rfl⟩ := r'
        obtain ⟨t'', rfl⟩ := r''
        refine call_range_3 c0 ?_ (.inl (PyProof.noPylong_small c1))
        exact ⟨_, i, j, k, _, _, _, H1, rfl, IsRange.new _ _ _ _ _ _ _, I1.kept fun b u e => Heap.get?_push_of_some _ e, q⟩
def rgVc (a c : Int) (n : Nat) : List V := (List.range n).map fun i => V.int (a + (i : Nat) * c)
theorem vals_rgc {a c : Int} {n : Nat} {acc : Array Value} (h : ItemsOf (fun i v => ∃ t, v = .int (a + i * c) t) acc n) : Vals (rgVc a c n) acc.toList := by
  have e : acc.toList.length = n := by rw [Array.length_toList]; exact h.1
  unfold rgVc
  rw [← e]
  refine vals_of_get acc.toList _ fun j u hj => ?_
  obtain ⟨t, rfl⟩ := h.2 j u (by rw [← hj, Array.getElem?_toList])
  exact ⟨t, rfl⟩
variable {e : Expr} {te : St → Hp → (Int → Int → Int → Hp → Prop) → Prop}
def tLstRg3 (te : St → Hp → (Int → Int → Int → Hp → Prop) → Prop) : TE := fun σ H Q => te σ H fun a b c H1 => ∃ n, RgC a b c n ∧ n ≤ 16777216 ∧ ∀ q, H1 q = none → Q (.ref q) (upd H1 q (.lst (rgVc a c n)))
theorem pe_listRg3 (hc : X.calm = true) (hg : Gl X "list") (hm : X.mg "list" = none) (he : PRg3 X e te) (na : starEach [e] X.env = (false, eval e X.env) :: starEach [] X.env := by rfl) : PE X (.Call (.Name "list" p) [e] [] pos) (tLstRg3 te) := by
  refine ⟨fun pins s σ H Q I h => ?_⟩
  refine PyProof.Rows.Call_ (ld_blt I hg hm PyProof.Rows.boot_list (PyProof.Rows.callWith_type1 (PyProof.Rows.args_cons (thn (he pins s σ H _ I h) fun x s1 ⟨r, a, b, c, t, u, v, H1, ex, hr, I1, n, ok, hz, q⟩ => PyProof.Rows.args_nil ?_) na) na))
  subst ex
  obtain ⟨b1, b2, b3, b4⟩ := ok
  refine call_list_range (n := n) (I1.ok.hd hc) hr b3 b4 hz fun h' tk acc c' hk e' hi => ?_
  refine ⟨.ref s1.heap.objs.size, upd H1 s1.heap.objs.size (.lst (rgVc a c n)), I1.laid hk (Nat.le_refl _) (show ObjOk X.prog X.w _ _ _ (.lst (rgVc a c n)) from ⟨?_, acc.toList, c', vals_rgc hi, ?_⟩), rfl, q _ (I1.hok.fresh (Nat.le_refl _))⟩
  · unfold rgVc; rw [List.length_map, List.length_range, sizeLine_eq]; omega
  · rw [Array.toArray_toList]; exact e'
/-- list(range(a, b, -1)) -/
def eLstRg3 (f g k : Rho → Rs RV) : Rho → Rs RV := fun ρ => (f ρ).bind fun r ρ1 => (g ρ1).bind fun q ρ2 => (k ρ2).bind fun u ρ3 => match view ρ3 r, view ρ3 q, view ρ3 u with
  | .int m, .int n, .int c => if (0 ≤ m ∧ m ≤ 100000 ∧ 0 ≤ n ∧ n ≤ 100000) ∧ c = -1 then .ok (.own (.l (rngC m (-1) (m - n).toNat))) ρ3 else .err
  | _, _, _ => .err
theorem rpl_rgc {K : PySem.W.Frag} {B : Hp} {lo c : Int} {n : Nat} : RpL K B (rngC lo c n) (rgVc lo c n) := rpl_map (f := fun i : Nat => D.int (lo + (i : Nat) * c)) (g := fun i : Nat => V.int (lo + (i : Nat) * c)) (fun _ => rfl) _
theorem fe_lstRg3 (hc : X.calm = true) (hgl : Gl X "list") (hml : X.mg "list" = none) (hg : Gl X "range") (hm : X.mg "range" = none) (h : FE X W a F) (h' : FE X W b G) (h'' : FE X W c E)
    (hs3 : starEach [c] X.env = (false, eval c X.env) :: starEach [] X.env := by rfl) (hs2 : starEach [b, c] X.env = (false, eval b X.env) :: starEach [c] X.env := by rfl)
    (hs : starEach [a, b, c] X.env = (false, eval a X.env) :: starEach [b, c] X.env := by rfl) (hpl : (backTo pos' (starEach [b, c] X.env)).any (·.1) = false := by rfl)
    (hs' : starEach [.Call (.Name "range" p') [a, b, c] [] pos'] X.env = (false, eval (.Call (.Name "range" p') [a, b, c] [] pos') X.env) :: starEach [] X.env := by rfl) :
    FE X W (.Call (.Name "list" p) [.Call (.Name "range" p') [a, b, c] [] pos'] [] pos) (eLstRg3 F G E) := by
  obtain ⟨t, pe, o⟩ := h.ex
  obtain ⟨t', pe', o'⟩ := h'.ex
  obtain ⟨t'', pe'', o''⟩ := h''.ex
  refine ⟨_, pe_listRg3 hc hgl hml (prg_3 hg hm (pa_cons pe (pa_cons pe' (pa_cons pe'' pa_nil hs3) hs2) hs) hs hpl) hs', fun B H σ ρ Q S post => ?_⟩
  refine o B H σ ρ _ S (post.bind0 fun r ρ1 B1 H1 S1 st1 f1 post1 v hv => ?_)
  refine o' B1 H1 σ ρ1 _ S1 (post1.bind st1 f1 fun q ρ2 B2 H2 S2 st2 f2 post2 w hw => ?_)
  refine o'' B2 H2 σ ρ2 _ S2 (post2.bind (st1.trans st2) (f1.trans f2) fun u ρ3 B3 H3 S3 st3 f3 post3 z hz => ?_)
  split at post3
  · rename_i m n c e1 e2 e3
    split at post3
    · rename_i hl
      have g := ((hv.later st2 f2).later st3 f3).view S3
      rw [e1] at g
      cases rp_int g
      have g := (hw.later st3 f3).view S3
      rw [e2] at g
      cases rp_int g
      have g := hz.view S3
      rw [e3] at g
      cases rp_int g
      obtain ⟨⟨l1, l2, l3, l4⟩, rfl⟩ := hl
      refine ⟨m, n, -1, rfl, by decide, by decide, _, RgC.neg (by omega) (by omega) (by omega) (by omega), by omega, fun p hp => ?_⟩
      exact post3 _ _ (S3.new hp) (((st1.trans st2).trans st3).trans (Step.new S3 hp)) ((f1.trans f2).trans f3) _ ⟨rfl, ⟨p, _, rfl, S3.notNew hp, upd_same, rpl_rgc⟩, rfl, p, rfl, ((st1.trans st2).trans st3).dom p hp, S3.notOwn hp⟩
    · exact post3.elim
  · exact post3.elim
def lstRg3R (m n c : Int) (ρ : Rho) : Rs RV := if (0 ≤ m ∧ m ≤ 100000 ∧ 0 ≤ n ∧ n ≤ 100000) ∧ c = -1 then .ok (.own (.l (rngC m (-1) (m - n).toNat))) ρ else .err
@[simp] theorem eLstRg3_ev {f g k : Rho → Rs RV} {ρ : Rho} : eLstRg3 f g k ρ = (f ρ).bind fun r ρ1 => (g ρ1).bind fun q ρ2 => (k ρ2).bind fun u ρ3 => match view ρ3 r, view ρ3 q, view ρ3 u with
  | .int m, .int n, .int c => lstRg3R m n c ρ3
  | _, _, _ => .err := of_rfl rfl
theorem lstRg3R_ev {m n : Int} {ρ : Rho} (h1 : 0 ≤ m) (h2 : m ≤ 100000) (h3 : 0 ≤ n) (h4 : n ≤ 100000) : lstRg3R m n (-1) ρ = .ok (.own (.l (rngC m (-1) (m - n).toNat))) ρ := by
  unfold lstRg3R
  rw [if_pos ⟨⟨h1, h2, h3, h4⟩, rfl⟩]
end
end FP
namespace FP
open PySem L2 PySem.W
/-! ## sorted of data -/
/-- what sorted takes: alike data, tuples that are not empty, or none of them a tuple or None -/
def sortOk (ds : List D) : Bool := ds.all (fun d => pyOk d && decide ((toPy d).depth ≤ 60) && ds.all fun d' => alike (toPy d) (toPy d')) &&
  (ds.all (fun d => match d with | .tup (_ :: _) => true | _ => false) || ds.all (fun d => match d with | .tup _ => false | .non => false | _ => true))
def leD (x y : D) : Bool := dataLe false toPy x y
def sortD (ds : List D) : List D := ds.mergeSort leD
def leP (p q : D × V) : Bool := leD p.1 q.1
def sortP (ds : List D) (vs : List V) : List (D × V) := (ds.zip vs).mergeSort leP
theorem leP_eq : leP = dataLe false (fun b : D × V => toPy b.1) := rfl
theorem sortP_fst {ds : List D} {vs : List V} (hl : vs.length = ds.length) : (sortP ds vs).map (·.1) = sortD ds := by
  unfold sortP sortD
  rw [List.map_mergeSort (r := leP) (s := leD) (f := fun p : D × V => p.1) fun _ _ _ _ => rfl]
  rw [List.map_fst_zip (by omega)]
theorem rpl_zip {K : PySem.W.Frag} {B : Hp} : ∀ {ds : List D} {vs : List V}, RpL K B ds vs → ∀ p, p ∈ ds.zip vs → Rp K B p.1 p.2
  | [], _, _, p, h => by simp at h
  | d :: ds, _, ⟨v, r, h1, h2, h3⟩, p, h => by
    subst h1
    rw [List.zip_cons_cons] at h
    rcases List.mem_cons.mp h with rfl | h
    · exact h2
    · exact rpl_zip h3 p h
theorem rpl_of {K : PySem.W.Frag} {B : Hp} : ∀ {ps : List (D × V)}, (∀ p, p ∈ ps → Rp K B p.1 p.2) → RpL K B (ps.map (·.1)) (ps.map (·.2))
  | [], _ => rfl
  | p :: ps, h => ⟨p.2, _, rfl, h p List.mem_cons_self, rpl_of fun q hq => h q (List.mem_cons_of_mem _ hq)⟩
theorem sortP_rp {K : PySem.W.Frag} {B : Hp} {ds : List D} {vs : List V} (h : RpL K B ds vs) : RpL K B (sortD ds) ((sortP ds vs).map (·.2)) := by
  rw [← sortP_fst h.length]
  exact rpl_of fun p hp => rpl_zip h p ((List.mergeSort_perm _ _).mem_iff.mp hp)
def rSortedD (K : PySem.W.Frag) : List V → Hp → VK → Prop := fun vs H Q => ∃ (a : Addr) (ds : List D) (xs : List V), vs = [V.ref a] ∧ SqL K H a xs ∧ RpL K H ds xs ∧ sortOk ds = true ∧
  ∀ p : Addr, H p = none → Q (.ref p) (upd H p (.lst ((sortP ds xs).map (·.2))))
section
variable {X : Cx}
theorem each_zip {R : Value → (D × V) → Prop} : ∀ {ds : List D} {xs : List V} {us : List Value}, xs.length = ds.length → Vals xs us → (∀ d v u, (d, v) ∈ ds.zip xs → RelV v u → R u (d, v)) → EachIs R us (ds.zip xs)
  | [], xs, us, hl, hv, _ => by
    have : xs = [] := List.length_eq_zero_iff.mp hl
    subst this
    cases hv
    exact .nil
  | d :: ds, [], us, hl, _, _ => by cases hl
  | d :: ds, x :: xs, us, hl, hv, h => by
    cases hv with
    | cons h1 h2 =>
      rw [List.zip_cons_cons]
      exact .cons (h _ _ _ (by rw [List.zip_cons_cons]; exact List.mem_cons_self) h1) (each_zip (by simpa using hl) h2 fun d v u hm r => h d v u (by rw [List.zip_cons_cons]; exact List.mem_cons_of_mem _ hm) r)
theorem each_vals : ∀ {ps : List (D × V)} {us : List Value}, EachIs (fun u p => RelV p.2 u) us ps → Vals (ps.map (·.2)) us
  | _, _, .nil => .nil
  | _, _, .cons h t => .cons h (each_vals t)
theorem sortOk_alike {ds : List D} (h : sortOk ds = true) : ∀ d, d ∈ ds → pyOk d = true ∧ (toPy d).depth ≤ 60 ∧ ∀ d', d' ∈ ds → alike (toPy d) (toPy d') = true := fun d hd => by
  unfold sortOk at h
  simp only [Bool.and_eq_true, List.all_eq_true, decide_eq_true_eq] at h
  exact ⟨(h.1 d hd).1.1, (h.1 d hd).1.2, (h.1 d hd).2⟩
theorem sortOk_kind {ds : List D} (h : sortOk ds = true) : Sortable (ds.map toPy) := by
  unfold sortOk at h
  simp only [Bool.and_eq_true, Bool.or_eq_true, List.all_eq_true] at h
  rcases h.2 with g | g
  · refine .inl fun d hd => ?_
    obtain ⟨x, hx, rfl⟩ := List.mem_map.mp hd
    have := g x hx
    split at this
    · exact ⟨_, _, rfl⟩
    · cases this
  · refine .inr fun d hd => ?_
    obtain ⟨x, hx, rfl⟩ := List.mem_map.mp hd
    have gx := g x hx
    have ok := (sortOk_alike (ds := ds) (by unfold sortOk; simp only [Bool.and_eq_true, Bool.or_eq_true, List.all_eq_true]; exact h) x hx).1
    cases x with
    | non => cases gx
    | tup _ => cases gx
    | ins _ _ => cases ok
    | dct _ => cases ok
    | exn _ _ _ _ => cases ok
    | _ => exact ⟨fun e => (by simp [toPy] at e), fun xs e => (by simp [toPy] at e)⟩
theorem cr_sortedD (hu : X.A.units + 64 < cLine) : CallR X (.builtin "sorted") (rSortedD X.K) := by
  intro pins s σ H vs us Q I r h
  obtain ⟨a, ds, xs, rfl, hs, hd, ok, q⟩ := h
  obtain ⟨its, rv, hl, hz⟩ := I.list hs
  rw [Vals.ref1 r]
  have hlen := hd.length
  have hm := fun p hp => rpl_zip hd p hp
  have hds : ∀ p, p ∈ ds.zip xs → p.1 ∈ ds := fun p hp => (List.of_mem_zip hp).1
  have al := sortOk_alike ok
  have hmap : (ds.zip xs).map (fun b : D × V => toPy b.1) = ds.map toPy := by
    rw [show (fun b : D × V => toPy b.1) = toPy ∘ Prod.fst from rfl, ← List.map_map, List.map_fst_zip (by omega)]
  refine sorted_data (bs := ds.zip xs) (enc := fun b : D × V => toPy b.1) (R := fun u p => RelV p.2 u) hl.isList (each_zip hlen rv fun d v u _ r => r) (each_zip hlen rv fun d v u hp r => Dp.reads I (toPy d) v u (dp_of (hm _ hp) (al d (hds _ hp)).1) r) ?_ ?_ ?_ ?_ fun out h1 h2 => ?_
  · rw [hmap]
    intro x hx y hy
    obtain ⟨d, hd', rfl⟩ := List.mem_map.mp hx
    obtain ⟨d', hd'', rfl⟩ := List.mem_map.mp hy
    exact (al d hd').2.2 d' hd''
  · rw [hmap]; exact sortOk_kind ok
  · rw [List.length_zip, hlen, Nat.min_self, ← hlen]; exact hz
  · intro b hb
    have := (al b.1 (hds b hb)).2.1
    show X.A.units + 2 + (toPy b.1).depth < cLine
    omega
  have hv := each_vals h2
  obtain ⟨ep, he'⟩ := PyProof.Rows.sortedAll_at s.heap its out.toArray
  have hlen2 : ((sortP ds xs).map (·.2)).length ≤ sizeLine := by
    unfold sortP
    rw [List.length_map, List.length_mergeSort, List.length_zip, hlen, Nat.min_self, ← hlen]; exact hz
  exact ⟨.ref _, upd H (s.heap.objs.size + 1) (.lst ((sortP ds xs).map (·.2))), I.laid (t' := s.toks) (fun _ _ => PyProof.Rows.sortedAll_old) (Nat.le_succ _) ⟨hlen2, out, ep, hv, he'⟩, rfl, q _ (I.hok.fresh (Nat.le_succ _))⟩
def bSortD : Rho → List RV → Rs RV := fun ρ rs => match rs with
  | [r] => match view ρ r with
    | .lst ds => if sortOk ds then .ok (.own (.l (sortD ds))) ρ else .err
    | .frz ds => if sortOk ds then .ok (.own (.l (sortD ds))) ρ else .err
    | _ => .err
  | _ => .err
theorem bt_sorted : bootBuiltins "sorted" = some (.builtin "sorted") := by decide +kernel
theorem b_sortD (hu : X.A.units + 64 < cLine) : BI X (.builtin "sorted") bSortD := by
  refine ⟨_, cr_sortedD hu, fun W Bs Hs B H σ ρs ρ Q rs vs S st fl hvs post => ?_⟩
  unfold bSortD at post
  split at post
  · rename_i r
    obtain ⟨v, _, rfl, hv, rfl⟩ := hvs.1
    split at post
    · rename_i ds e
      split at post
      · rename_i ok
        obtain ⟨a, xs, rfl, h1, h2⟩ := hv.items S e
        refine ⟨a, ds, xs, rfl, SqL.of h1, RpL.up S.ex h2, ok, fun p hp => ?_⟩
        exact post B _ (S.new hp) (st.trans (Step.new S hp)) fl _ ⟨rfl, ⟨p, _, rfl, S.notNew hp, upd_same, sortP_rp h2⟩, rfl, p, rfl, st.dom p hp, S.notOwn hp⟩
      · exact post.elim
    · rename_i ds e
      split at post
      · rename_i ok
        obtain ⟨a, xs, rfl, h1, h2⟩ := hv.fitems S e
        refine ⟨a, ds, xs, rfl, h1, RpL.up S.ex h2, ok, fun p hp => ?_⟩
        exact post B _ (S.new hp) (st.trans (Step.new S hp)) fl _ ⟨rfl, ⟨p, _, rfl, S.notNew hp, upd_same, sortP_rp h2⟩, rfl, p, rfl, st.dom p hp, S.notOwn hp⟩
      · exact post.elim
    · exact post.elim
  · exact post.elim
@[simp] theorem bSortD_ev {ρ : Rho} {r : RV} : bSortD ρ [r] = match view ρ r with
    | .lst ds => if sortOk ds then .ok (.own (.l (sortD ds))) ρ else .err
    | .frz ds => if sortOk ds then .ok (.own (.l (sortD ds))) ρ else .err
    | _ => .err := of_rfl rfl
/-! ### what sorted gives -/
theorem sortD_map {α : Type} (el : α → D) (xs : List α) : sortD (xs.map el) = (xs.mergeSort (dataLe false fun a => toPy (el a))).map el := by
  unfold sortD
  exact (List.map_mergeSort (r := dataLe false fun a => toPy (el a)) (s := leD) (f := el) fun _ _ _ _ => rfl).symm
/-- the one sorted row of these items -/
theorem sort_one {α : Type} {le : α → α → Prop} (anti : ∀ a b, le a b → le b a → a = b) : ∀ {xs ys : List α}, xs.Perm ys → xs.Pairwise le → ys.Pairwise le → xs = ys
  | [], ys, h, _, _ => h.nil_eq
  | x :: xs, [], h, _, _ => by cases h.length_eq
  | x :: xs, y :: ys, h, hx, hy => by
    have hx' := List.pairwise_cons.mp hx
    have hy' := List.pairwise_cons.mp hy
    have e : x = y := by
      have h1 : x ∈ y :: ys := h.mem_iff.mp (List.mem_cons_self)
      have h2 : y ∈ x :: xs := h.mem_iff.mpr (List.mem_cons_self)
      rcases List.mem_cons.mp h1 with h1 | h1
      · exact h1
      · rcases List.mem_cons.mp h2 with h2 | h2
        · exact h2.symm
        · exact anti _ _ (hx'.1 y h2) (hy'.1 x h1)
    subst e
    rw [sort_one anti (List.Perm.cons_inv h) hx'.2 hy'.2]
/-- sorted(xs) is ys, if ys has the same items and stands in the order le, which is the data's -/
theorem sortD_eq {α : Type} {el : α → D} {le : α → α → Bool} (hle : ∀ a b, dataLe false (fun a => toPy (el a)) a b = le a b) (anti : ∀ a b, le a b = true → le b a = true → a = b) {xs ys : List α} (hp : xs.Perm ys) (hs : ys.Pairwise fun a b => le a b = true) :
    sortD (xs.map el) = ys.map el := by
  rw [sortD_map]
  congr 1
  have T := PySem.W.sortLe_total (α := α) (PyProof.Rows.listOrd PyProof.Rows.itemOrd) false fun b => PySem.W.keyToks (toPy (el b))
  have p1 := PySem.W.sort_pairwise T xs
  refine sort_one (le := fun a b => le a b = true) anti ((List.mergeSort_perm _ _).trans hp) (p1.imp fun {a b} h => ?_) hs
  rw [← hle]; exact h
theorem toPyL_ints : ∀ ns : List Int, toPyL (ns.map D.int) = ns.map PyData.int
  | [] => rfl
  | n :: ns => by rw [List.map_cons, List.map_cons, ← toPyL_ints ns]; rfl
/-- tuples of ints in the order of rows -/
theorem dataLe_tints {α : Type} (x : α → List Int) : dataLe false (fun b => toPy (.tup ((x b).map .int))) = fun p q => decide (x p ≤ x q) := by
  rw [← dataLe_rows x]
  funext p q
  show sortLe _ _ _ _ _ = sortLe _ _ _ _ _
  unfold sortLe
  dsimp only
  rw [show toPy (.tup ((x p).map .int)) = .tuple ((x p).map .int) from congrArg PyData.tuple (toPyL_ints _), show toPy (.tup ((x q).map .int)) = .tuple ((x q).map .int) from congrArg PyData.tuple (toPyL_ints _)]
  simp only [keyToks]
theorem alikeAll_ints : ∀ {xs ys : List Int}, alikeAll (toPyL (xs.map D.int)) (toPyL (ys.map D.int)) = true
  | xs, ys => by rw [toPyL_ints, toPyL_ints]; exact alike_ints xs ys
theorem eqvAll_ints : ∀ {xs ys : List Int}, PyData.eqv (.list (xs.map .int)) (.list (ys.map .int)) = decide (xs = ys)
  | [], [] => by simp [PyData.eqv, PyData.eqvAll]
  | [], y :: ys => by simp [PyData.eqv, PyData.eqvAll]
  | x :: xs, [] => by simp [PyData.eqv, PyData.eqvAll]
  | x :: xs, y :: ys => by
    have ih := eqvAll_ints (xs := xs) (ys := ys)
    simp only [PyData.eqv] at ih
    simp only [PyData.eqv, List.map_cons, PyData.eqvAll, ih]
    by_cases h : x = y <;> simp [h]
theorem dataLe_ir {α : Type} (k : α → Int) (x : α → List Int) : dataLe false (fun b => toPy (.tup [.int (k b), .lst ((x b).map .int)])) = fun p q => decide (k p < k q ∨ (k p = k q ∧ x p ≤ x q)) := by
  funext p q
  have e : ∀ b, toPy (.tup [.int (k b), .lst ((x b).map .int)]) = .tuple [.int (k b), .list ((x b).map .int)] := fun b => by
    show PyData.tuple [.int (k b), .list (toPyL ((x b).map .int))] = _
    rw [toPyL_ints]
  show (!dataLt (toPy (.tup [.int (k q), .lst ((x q).map .int)])) (toPy (.tup [.int (k p), .lst ((x p).map .int)]))) = _
  rw [e, e, dataLt_pair (by simp [alike]) (by simp only [alike]; exact alike_ints _ _), dataLt_int, dataLt_list]
  show (!(if _ then (if _ then false else rowLt ((x q).map .int) ((x p).map .int)) else _)) = _
  rw [dataLt_ints]
  rw [eqvAll_ints]
  by_cases h1 : k q = k p
  · have h1' : k p = k q := h1.symm
    by_cases h2 : x q = x p
    · simp [h1, h2, PyData.eqv]
    · have h3 : ¬ k p < k q := by omega
      simp only [h1, PyData.eqv, beq_self_eq_true, if_true, h2, decide_false, Bool.false_eq_true, if_false, h3, true_and, false_or]
      by_cases h4 : x q < x p
      · have : ¬ x p ≤ x q := fun r => List.not_lt.mpr r h4
        simp [h4, this]
      · have : x p ≤ x q := List.not_lt.mp h4
        simp [h4, this]
  · have e2 : PyData.eqv (.int (k q)) (.int (k p)) = false := by simp [PyData.eqv, h1]
    rw [e2]
    by_cases h4 : k q < k p
    · have h5 : ¬ k p < k q := by omega
      simp [h4, h5, fun z : k p = k q => h1 z.symm]
      intro z; exact absurd z.symm h1
    · have h5 : k p < k q := by omega
      simp [h4, h5]
end
end FP
namespace FP
open PySem L2
/-! ## isinstance of an own class, true only -/
section
variable {X : Cx} {W : WX} {pos : Pos} {a b : Expr} {A : Rho → Rs RV} {p : Pos}
structure IscC (K : PySem.W.Frag) (C : Addr) : Prop where
  ha : PySem.W.findIn K (.ref C) "__class__" = some (some (.builtin "object.__class__"))
  hn : PySem.W.specialIn K (.builtin "object.__class__") "__get__" = some (some (.builtin "getset_descriptor.__get__"))
  htk : PySem.W.takesIn K (.builtin "object.__class__") = some true
  hm : PySem.W.mroIn K C (.type "object") = some true
def eIsc (C : Addr) (f : Rho → Rs RV) : Rho → Rs RV := fun ρ => (f ρ).bind fun r ρ1 => match view ρ1 r with
  | .ins C' _ => if C' = C then .ok (.d (.bl true)) ρ1 else .err
  | _ => .err
theorem fe_isc {C : Addr} (cl : Cls X.K C) (ic : IscC X.K C) (hg : Gl X "isinstance") (hm : X.mg "isinstance" = none) (ha : FE X W a A) (hb : PE X b (tC (.ref C)))
    (hs : starEach [a, b] X.env = (false, eval a X.env) :: starEach [b] X.env := by rfl) (hs2 : starEach [b] X.env = (false, eval b X.env) :: starEach [] X.env := by rfl) (hpl : (backTo pos (starEach [b] X.env)).any (·.1) = false := by rfl) :
    FE X W (.Call (.Name "isinstance" p) [a, b] [] pos) (eIsc C A) := by
  obtain ⟨t, pa, oa⟩ := ha.ex
  refine ⟨_, pe_callB call_isi hg hm (by decide +kernel) (pa_cons pa (pa_cons hb pa_nil hs2) hs) (by decide) (by decide) hs hpl, fun B H σ ρ Q S post => ?_⟩
  refine oa B H σ ρ _ S (post.bind0 fun r ρ1 B1 H1 S1 st1 f1 post1 v hv => ?_)
  split at post1
  · rename_i C' fs e
    split at post1
    · rename_i hC
      subst hC
      have hvv := hv.view S1
      rw [e] at hvv
      obtain ⟨ad, dx, vs, rfl, h2, h3⟩ := hvv
      refine ⟨_, .ref C', .ref C', .ref C', true, rfl, .own C', .base (.ins h2 cl ic.ha ic.hn ic.htk ic.hm), ?_, post1 B1 H1 S1 st1 f1 _ rfl⟩
      unfold PySem.W.kitOne
      simp
    · exact post1.elim
  · exact post1.elim
@[simp] theorem eIsc_ev {C : Addr} {ρ : Rho} : eIsc C A ρ = (A ρ).bind fun r ρ1 => match view ρ1 r with
    | .ins C' _ => if C' = C then .ok (.d (.bl true)) ρ1 else .err
    | _ => .err := of_rfl rfl
end
end FP
/-! FPc: C(.., k = v, ..) where keyword-only arguments lack (their defaults are taken). -/
namespace FP
open PySem L2 PyProof.Rows
/-- what a call with keywords ks binds, the rest from the defaults, which are the data dds -/
structure KwD (K : PySem.W.Frag) (fd : FuncData) (ps : List Str) (n : Nat) (ks : List Str) (dds : List D) : Prop where
  ex : ∃ (gf : List Value → List Value → List Value) (dvs : List V), KBn K fd ps n ks gf (fun vs zs => vs ++ (zs ++ dvs)) ∧ ∀ B, RpL K B dds dvs
theorem kwD_mk {K : PySem.W.Frag} {x qual : Str} {st : Stmt} {f D : Addr} {oc : Value} {od : Option Addr} {doc pm : Value} {an : Option Addr} {cdv ct : Value} {osl : Array (Option Value)} (lk : K.lookup f = some ⟨oc, od, .func (PySem.W.fnOf x qual (defArgs st) (defBody st) (defScope st) .none (.ref D) doc pm an cdv ct), osl⟩)
    (hcd : PySem.W.codeIn K cdv qual = true) (kp : PySem.W.keepIn K (.ref f) = true) {w : Str} {t : Addr} (hw : PySem.W.nsIn K D w = some (some (.ref t))) {od' : Option Addr} {n' : Nat} {sl' : Array (Option Value)} (ht : K.lookup t = some ⟨.type "tuple", od', .seq #[] n', sl'⟩)
    {n : Nat} {ks ps : List Str} (h : ∀ (D : Addr) (doc pm : Value) (an : Option Addr) (cdv ct : Value) (us mv ws : List Value), us.length = n → mv.length = 1 → ws.length = ks.length →
      KwChain D ([w].zip mv) (bindArgs (PySem.W.fnOf x qual (defArgs st) (defBody st) (defScope st) .none (.ref D) doc pm an cdv ct) ⟨us, ks.zip ws⟩) (ps.zip (us ++ (ws ++ mv)))) :
    KwD K (PySem.W.fnOf x qual (defArgs st) (defBody st) (defScope st) .none (.ref D) doc pm an cdv ct) ps n ks [.tup []] := by
  have F : FunD K x qual (defArgs st) (defBody st) (defScope st) [] [(w, V.ref t)] f (PySem.W.fnOf x qual (defArgs st) (defBody st) (defScope st) .none (.ref D) doc pm an cdv ct) :=
    ⟨⟨oc, od, .none, .ref D, doc, pm, an, cdv, ct, osl, rfl, lk, hcd, .inl ⟨rfl, rfl⟩, .inr ⟨D, rfl, fun q hq => by
      cases List.mem_singleton.mp hq
      exact ⟨.ref t, hw, rfl⟩⟩⟩, kp⟩
  obtain ⟨mv, hb⟩ := F.kbinds0 (ps := ps) n ks [(w, V.ref t)] (fun us mv ws => us ++ (ws ++ mv)) (by simp) (fun q hq => hq) (fun r1 r2 r3 => Vals.append r1 (Vals.append r3 r2)) h
  exact ⟨_, [V.ref t], hb, fun B => .cons (rp_ctup (ns := []) (us := []) ht .nil (by decide) B) .nil⟩
section
variable {X : Cx} {W : WX} {p pos : Pos} {x : Str} {e : Expr} {es : List Expr} {kws : List Keyword} {As Ks : Rho → Rs (List RV)} {k : Nat} {f C : Addr} {fd : FuncData} {ps ks : List Str} {fi : Addr → List D → Option Fs}
theorem fe_makeKD {dds : List D} (M : Mk X.K C f) (Fn : FnOk X.prog X.w X.K X.mg X.base CX0 k f fd ps (spI X.K C fi)) (hr : Room (k + 1) X.A) (hg : Gl X x) (hm : X.mg x = some (.ref C)) (hb : KwD X.K fd ps ((e :: es).length + 1) ks dds)
    (ha : FA X W (e :: es) As) (hk : FK X W kws Ks) (la : ∀ ρ rs ρ', As ρ = .ok rs ρ' → rs.length = (e :: es).length) (lk : ∀ ρ rs ρ', Ks ρ = .ok rs ρ' → rs.length = ks.length)
    (hall : (backToKw pos (keywordEach kws X.env)).all (·.1.isSome) = true := by rfl) (hks : (backToKw pos (keywordEach kws X.env)).filterMap (·.1) = ks := by rfl) (hdb : (x == ("__debug__" : Str)) = false := by decide)
    (he : starEach (e :: es) X.env = (false, eval e X.env) :: starEach es X.env := by rfl) (hpl : ((backTo pos (starEach (e :: es) X.env)).any (·.1) || (backToKw pos (keywordEach kws X.env)).any (·.1.isNone)) = false := by rfl) :
    FE X W (.Call (.Name x p) (e :: es) kws pos) (eMakeK (mkF C fi) As Ks dds) := by
  obtain ⟨gf, dvs, hb, hdd⟩ := hb.ex
  exact fe_makeK M Fn hr hg hm hb (fun y vs zs _ _ => by simp) hdd ha hk la lk hall hks hdb he hpl
end
end FP
/-! FPd: clear, pop, pop(i), extend of an owned list; rstrip, ljust, rjust of texts -/
namespace FP
open PySem L2
section
variable {K : PySem.W.Frag} {B : Hp}
theorem RpL.dropLast {ds : List D} {vs : List V} (h : RpL K B ds vs) : RpL K B ds.dropLast vs.dropLast := by
  rw [List.dropLast_eq_take, List.dropLast_eq_take, h.length]; exact h.take _
theorem RpL.eraseIdx : ∀ {ds : List D} {vs : List V} (i : Nat), RpL K B ds vs → RpL K B (ds.eraseIdx i) (vs.eraseIdx i)
  | [], _, _, h => by rw [show _ = [] from h]; exact rfl
  | d :: ds, _, 0, ⟨v, r, h1, h2, h3⟩ => by subst h1; exact h3
  | d :: ds, _, i + 1, ⟨v, r, h1, h2, h3⟩ => by subst h1; exact ⟨v, _, rfl, h2, RpL.eraseIdx i h3⟩
theorem Fills.set {ρ : Rho} {i : Nat} {sv : SV} (ht : sv.isT = false := by rfl) : Fills ρ (ρ.set i (some sv)) := fun j sv1 h nt => by
  by_cases hj : i = j
  · subst hj
    exact ⟨sv, List.getElem?_set_self (List.getElem?_eq_some_iff.mp h).1, ht⟩
  · exact ⟨sv1, by rw [List.getElem?_set_ne hj]; exact h, nt⟩
end
section
variable {X : Cx} {W : WX} {pos : Pos} {e : Expr} {F : Rho → Rs RV}
/-! ### x.clear() -/
def sClr (i : Nat) : Rho → Out := fun ρ => match ρ[i]? with
  | some (some (.l _)) => .nx (ρ.set i (some (.l [])))
  | _ => .err
theorem fs_clear {i : Nat} {x : Str} {p1 p2 p3 : Pos} (hN : X.N[i]? = some x) (hv : Vis X.env.scope x)
    (hbase : attributeBase (.Name x p1) "clear" X.env (eval (.Name x p1) X.env) = eval (.Name x p1) X.env := by rfl)
    (hline : (p2.endLine == p3.line) = true := by rfl)
    (hsw : swapsWith (.Call (.Attribute (.Name x p1) "clear" p2) [] [] p3) none pos.line X.env = pure false := by rfl)
    (hd : (x == ("__debug__" : Str)) = false := by decide) (hcd : (x == ("__classdict__" : Str)) = false := by decide) :
    FS X W (.Expr (.Call (.Attribute (.Name x p1) "clear" p2) [] [] p3) pos) (sClr i) := by
  refine ⟨_, ps_expr (pe_bm0 PySem.F.plainAttrs_list PySem.F.slot_list_clear PySem.F.type_list_clear mt_clear (pe_var hN hv hd hcd) hbase hline) hsw, fun B H σ ρ D S post => ?_⟩
  unfold sClr at post
  split at post
  · rename_i xs0 e0
    obtain ⟨v0, ha, a, vs0, rfl, q1, q2, q3⟩ := S.slot i _ e0
    refine ⟨.ref a, ha, .inl ⟨rfl, vs0, SqL.of q2⟩, a, vs0, rfl, rfl, q2, ?_⟩
    obtain ⟨S3, st3⟩ := mutS (sv' := .l []) (o := .lst []) S e0 rfl ha ⟨a, _, rfl, q1, upd_same, rfl⟩ rfl
    exact post B _ σ S3 st3
  · exact post.elim
/-! ### x.pop(), x.pop(i) -/
def ePop (i : Nat) : Rho → Rs RV := fun ρ => match ρ[i]? with
  | some (some (.l xs)) => match xs[xs.length - 1]? with
    | some y => .ok (.d y) (ρ.set i (some (.l xs.dropLast)))
    | none => .err
  | _ => .err
theorem fe_pop {i : Nat} {x : Str} {p1 p2 p3 : Pos} (hN : X.N[i]? = some x) (hv : Vis X.env.scope x)
    (hbase : attributeBase (.Name x p1) "pop" X.env (eval (.Name x p1) X.env) = eval (.Name x p1) X.env := by rfl)
    (hline : (p2.endLine == p3.line) = true := by rfl)
    (hd : (x == ("__debug__" : Str)) = false := by decide) (hcd : (x == ("__classdict__" : Str)) = false := by decide) :
    FE X W (.Call (.Attribute (.Name x p1) "pop" p2) [] [] p3) (ePop i) := by
  refine ⟨_, pe_bm0 PySem.F.plainAttrs_list PySem.F.slot_list_pop PySem.F.type_list_pop mt_pop (pe_var hN hv hd hcd) hbase hline, fun B H σ ρ Q S post => ?_⟩
  unfold ePop at post
  split at post
  · rename_i xs e0
    obtain ⟨v0, ha, a, vs, rfl, q1, q2, q3⟩ := S.slot i _ e0
    refine ⟨.ref a, ha, .inl ⟨rfl, vs, SqL.of q2⟩, ?_⟩
    split at post
    · rename_i y ey
      obtain ⟨v, ev, rv⟩ := q3.getD' ey
      obtain ⟨S3, st3⟩ := mutS (sv' := .l xs.dropLast) (o := .lst vs.dropLast) S e0 rfl ha ⟨a, _, rfl, q1, upd_same, q3.dropLast⟩ rfl
      exact ⟨a, vs, v, rfl, rfl, q2, by rw [q3.length]; exact ev, post B _ S3 st3 Fills.set v rv⟩
    · exact post.elim
  · exact post.elim
def ePopAt (i : Nat) (f : Rho → Rs RV) : Rho → Rs RV := fun ρ => match ρ[i]? with
  | some (some (.l _)) => (f ρ).bind fun r ρ1 => match ρ1[i]?, view ρ1 r with
    | some (some (.l xs)), .int k => if 0 ≤ k ∧ k < 100000 then match xs[k.toNat]? with
      | some y => .ok (.d y) (ρ1.set i (some (.l (xs.eraseIdx k.toNat))))
      | none => .err
      else .err
    | _, _ => .err
  | _ => .err
theorem fe_popAt {i : Nat} {x : Str} {p1 p2 p3 : Pos} (hN : X.N[i]? = some x) (hv : Vis X.env.scope x) (h : FE X W e F)
    (hbase : attributeBase (.Name x p1) "pop" X.env (eval (.Name x p1) X.env) = eval (.Name x p1) X.env := by rfl)
    (hfew : ((backTo p3 (starEach [e] X.env)).all (fun x => !x.1) && (backToKw p3 (keywordEach [] X.env)).all (fun x => x.1.isSome)
      && decide (([e] : List Expr).length + ([] : List Keyword).length + (if ([] : List Keyword).isEmpty then 0 else 1) < 30)) = true := by rfl)
    (hline : (p2.endLine == p3.line) = true := by rfl) (hs : starEach [e] X.env = (false, eval e X.env) :: starEach [] X.env := by rfl) (hplain : (backTo p3 (starEach [] X.env)).any (·.1) = false := by rfl)
    (hd : (x == ("__debug__" : Str)) = false := by decide) (hcd : (x == ("__classdict__" : Str)) = false := by decide) :
    FE X W (.Call (.Attribute (.Name x p1) "pop" p2) [e] [] p3) (ePopAt i F) := by
  obtain ⟨t, p, o⟩ := h.ex
  refine ⟨_, pe_bm PySem.F.plainAttrs_list PySem.F.slot_list_pop PySem.F.type_list_pop mt_popAt (pe_var hN hv hd hcd) (pa_cons p pa_nil hs) hbase hfew hline hs hplain, fun B H σ ρ Q S post => ?_⟩
  unfold ePopAt at post
  split at post
  · rename_i xs0 e0
    obtain ⟨v0, ha, a, vs0, rfl, q1, q2, q3⟩ := S.slot i _ e0
    refine ⟨.ref a, ha, .inl ⟨rfl, vs0, SqL.of q2⟩, ?_⟩
    refine o B H σ ρ _ S (post.bind0 fun r ρ1 B1 H1 S1 st1 f1 post1 v hv => ?_)
    split at post1
    · rename_i xs k e1 e2
      split at post1
      · rename_i hk
        split at post1
        · rename_i y ey
          obtain ⟨v', e3, e4⟩ := S1.slot i _ e1
          obtain ⟨a', vs, e5, e6, e7, e8⟩ := e4
          rw [ha] at e3; cases e3; cases e5
          have g2 := hv.view S1
          rw [e2] at g2
          cases rp_int g2
          obtain ⟨w, ew, rw'⟩ := e8.getD' ey
          have hlt := (List.getElem?_eq_some_iff.mp ew).1
          obtain ⟨S3, st3⟩ := mutS (sv' := .l (xs.eraseIdx k.toNat)) (o := .lst (vs.eraseIdx k.toNat)) S1 e1 rfl ha ⟨a, _, rfl, e6, upd_same, e8.eraseIdx _⟩ rfl
          refine ⟨a, vs, k, k.toNat, w, rfl, rfl, e7, by omega, by omega, ?_, ew, post1 B1 _ S3 (st1.trans st3) (f1.trans Fills.set) w rw'⟩
          unfold seqIndex?
          have g1 : ¬ k < 0 := by omega
          have g2 : (decide (0 ≤ k) && decide (k < (vs.length : Int))) = true := by
            rw [decide_eq_true (show 0 ≤ k by omega), decide_eq_true (show k < (vs.length : Int) by omega)]; rfl
          simp only [g1, if_false]
          rw [if_pos g2]
        · exact post1.elim
      · exact post1.elim
    · exact post1.elim
  · exact post.elim
/-! ### x.extend(e) -/
def sExt (i : Nat) (a : Rho → Rs RV) : Rho → Out := fun ρ => match ρ[i]? with
  | some (some (.l _)) => (a ρ).thn fun r ρ1 => match ρ1[i]?, view ρ1 r with
    | some (some (.l xs)), .lst zs => if xs.length + zs.length < 100000 then .nx (ρ1.set i (some (.l (xs ++ zs)))) else .err
    | _, _ => .err
  | _ => .err
theorem fs_extend {i : Nat} {x : Str} {p1 p2 p3 : Pos} (hN : X.N[i]? = some x) (hv : Vis X.env.scope x) (h : FE X W e F)
    (hbase : attributeBase (.Name x p1) "extend" X.env (eval (.Name x p1) X.env) = eval (.Name x p1) X.env := by rfl)
    (hfew : ((backTo p3 (starEach [e] X.env)).all (fun x => !x.1) && (backToKw p3 (keywordEach [] X.env)).all (fun x => x.1.isSome)
      && decide (([e] : List Expr).length + ([] : List Keyword).length + (if ([] : List Keyword).isEmpty then 0 else 1) < 30)) = true := by rfl)
    (hline : (p2.endLine == p3.line) = true := by rfl) (hs : starEach [e] X.env = (false, eval e X.env) :: starEach [] X.env := by rfl) (hplain : (backTo p3 (starEach [] X.env)).any (·.1) = false := by rfl)
    (hsw : swapsWith (.Call (.Attribute (.Name x p1) "extend" p2) [e] [] p3) none pos.line X.env = pure false := by rfl)
    (hd : (x == ("__debug__" : Str)) = false := by decide) (hcd : (x == ("__classdict__" : Str)) = false := by decide) :
    FS X W (.Expr (.Call (.Attribute (.Name x p1) "extend" p2) [e] [] p3) pos) (sExt i F) := by
  obtain ⟨t, p, o⟩ := h.ex
  refine ⟨_, ps_expr (pe_bm PySem.F.plainAttrs_list PySem.F.slot_list_extend PySem.F.type_list_extend mt_extend (pe_var hN hv hd hcd) (pa_cons p pa_nil hs) hbase hfew hline hs hplain) hsw, fun B H σ ρ D S post => ?_⟩
  unfold sExt at post
  split at post
  · rename_i xs0 e0
    obtain ⟨v0, ha, a, vs0, rfl, q1, q2, q3⟩ := S.slot i _ e0
    refine ⟨.ref a, ha, .inl ⟨rfl, vs0, SqL.of q2⟩, ?_⟩
    refine o B H σ ρ _ S (post.ahead fun r ρ1 B1 H1 S1 st1 f1 post1 v hv => ?_)
    split at post1
    · rename_i xs zs e1 e2
      split at post1
      · rename_i hl
        obtain ⟨v', e3, e4⟩ := S1.slot i _ e1
        obtain ⟨a', vs, e5, e6, e7, e8⟩ := e4
        rw [ha] at e3; cases e3; cases e5
        obtain ⟨b, ws, rfl, hb, rb⟩ := hv.items S1 e2
        obtain ⟨S3, st3⟩ := mutS (sv' := .l (xs ++ zs)) (o := .lst (vs ++ ws)) S1 e1 rfl ha ⟨a, _, rfl, e6, upd_same, e8.append rb⟩ rfl
        exact ⟨a, b, vs, ws, rfl, rfl, e7, hb, by rw [e8.length, rb.length]; exact Nat.le_of_lt (line_lt hl), post1 B1 _ σ S3 (st1.trans st3)⟩
      · exact post1.elim
    · exact post1.elim
  · exact post.elim
/-! ### methods of texts with flat results -/
structure TM0 (X : Cx) (name : Str) (g : Str → Option D) : Prop where
  ex : ∃ (id : String) (r : V → List V → Hp → VK → Prop), Slot "str" name id ∧ typeOf (.builtin id) = pure (.type "method_descriptor") ∧ MtR X id r ∧ ∀ s H Q d, g s = some d → (∀ v, (∀ B, Rp X.K B d v) → Q v H) → r (.str s) [] H Q
structure TM1 (X : Cx) (name : Str) (g : Str → D → Option D) : Prop where
  ex : ∃ (id : String) (r : V → List V → Hp → VK → Prop), Slot "str" name id ∧ typeOf (.builtin id) = pure (.type "method_descriptor") ∧ MtR X id r ∧ ∀ s y w H Q d, g s y = some d → Rp X.K H y w → (∀ v, (∀ B, Rp X.K B d v) → Q v H) → r (.str s) [w] H Q
def eT0 (g : Str → Option D) (a : Rho → Rs RV) : Rho → Rs RV := fun ρ => (a ρ).bind fun x ρ1 => match view ρ1 x with
  | .str s => match g s with
    | some d => .ok (.d d) ρ1
    | none => .err
  | _ => .err
def eT1 (g : Str → D → Option D) (a b : Rho → Rs RV) : Rho → Rs RV := fun ρ => (a ρ).bind fun x ρ1 => match view ρ1 x with
  | .str s => (b ρ1).bind fun y ρ2 => match g s (view ρ2 y) with
    | some d => .ok (.d d) ρ2
    | none => .err
  | _ => .err
variable {a b : Expr} {A Bf : Rho → Rs RV} {apos : Pos} {name : Str}
theorem fe_t0 {g : Str → Option D} (m : TM0 X name g) (ha : FE X W a A) (hbase : attributeBase a name X.env (eval a X.env) = eval a X.env := by rfl) (hline : (apos.endLine == pos.line) = true := by rfl) :
    FE X W (.Call (.Attribute a name apos) [] [] pos) (eT0 g A) := by
  obtain ⟨id, r, m1, m2, m3, m4⟩ := m.ex
  obtain ⟨ta, pa, oa⟩ := ha.ex
  refine ⟨_, pe_m0 m1 m2 m3 pa hbase hline, fun B H σ ρ Q S post => ?_⟩
  refine oa B H σ ρ _ S (post.bind0 fun x ρ1 B1 H1 S1 st1 f1 post1 v hv => ?_)
  split at post1
  · rename_i s e1
    have g1 := hv.view S1
    rw [e1] at g1
    cases rp_str g1
    refine ⟨⟨s, rfl⟩, ?_⟩
    split at post1
    · rename_i d e2
      exact m4 s _ _ d e2 fun v hv => post1 _ _ S1 st1 f1 v (hv _)
    · exact post1.elim
  · exact post1.elim
theorem fe_t1 {g : Str → D → Option D} (m : TM1 X name g) (ha : FE X W a A) (hb : FE X W b Bf) (hs : starEach [b] X.env = [(false, eval b X.env)] := by rfl) (hbase : attributeBase a name X.env (eval a X.env) = eval a X.env := by rfl) (hline : (apos.endLine == pos.line) = true := by rfl) :
    FE X W (.Call (.Attribute a name apos) [b] [] pos) (eT1 g A Bf) := by
  obtain ⟨id, r, m1, m2, m3, m4⟩ := m.ex
  obtain ⟨ta, pa, oa⟩ := ha.ex
  obtain ⟨tb, pb, ob⟩ := hb.ex
  refine ⟨_, pe_m1 m1 m2 m3 pa pb hs hbase hline, fun B H σ ρ Q S post => ?_⟩
  refine oa B H σ ρ _ S (post.bind0 fun x ρ1 B1 H1 S1 st1 f1 post1 v hv => ?_)
  split at post1
  · rename_i s e1
    have g1 := hv.view S1
    rw [e1] at g1
    cases rp_str g1
    refine ⟨⟨s, rfl⟩, ob B1 H1 σ ρ1 _ S1 (post1.bind st1 f1 fun y ρ2 B2 H2 S2 st2 f2 post2 w hw => ?_)⟩
    split at post2
    · rename_i d e2
      exact m4 s _ w _ _ d e2 (hw.view S2) fun v hv => post2 _ _ S2 (st1.trans st2) (f1.trans f2) v (hv _)
    · exact post2.elim
  · exact post1.elim
def gRstrip (s : Str) : Option D := if s.length ≤ 100000 then some (.str (Txt.rstrip s)) else none
theorem tm_rstrip : TM0 X "rstrip" gRstrip := ⟨_, _, PySem.F.slot_str_rstrip, PySem.F.type_str_rstrip, mt_rstrip, fun s H Q d e q => by
  unfold gRstrip at e
  split at e
  · rename_i h
    cases e
    exact ⟨s, rfl, rfl, Nat.le_trans h (by decide), q _ fun _ => rfl⟩
  · cases e⟩
def gLjust (s : Str) : D → Option D
  | .int i => if PadOk i = true then some (.str (Txt.ljust s i)) else none
  | _ => none
def gRjust (s : Str) : D → Option D
  | .int i => if PadOk i = true then some (.str (Txt.rjust s i)) else none
  | _ => none
theorem tm_ljust : TM1 X "ljust" gLjust := ⟨_, _, PySem.F.slot_str_ljust, PySem.F.type_str_ljust, mt_ljust, fun s y w H Q d e h q => by
  unfold gLjust at e
  split at e
  · split at e
    · rename_i i hp
      cases e
      cases rp_int h
      exact ⟨s, i, rfl, rfl, hp, q _ fun _ => rfl⟩
    · cases e
  · cases e⟩
theorem tm_rjust : TM1 X "rjust" gRjust := ⟨_, _, PySem.F.slot_str_rjust, PySem.F.type_str_rjust, mt_rjust, fun s y w H Q d e h q => by
  unfold gRjust at e
  split at e
  · split at e
    · rename_i i hp
      cases e
      cases rp_int h
      exact ⟨s, i, rfl, rfl, hp, q _ fun _ => rfl⟩
    · cases e
  · cases e⟩
end
section
variable {ρ : Rho} {i : Nat} {f a b : Rho → Rs RV} {xs : List D}
theorem sClr_ev (h : ρ[i]? = some (some (.l xs))) : sClr i ρ = .nx (ρ.set i (some (.l []))) := by unfold sClr; rw [h]
theorem ePop_ev : ePop i ρ = match ρ[i]? with
  | some (some (.l xs)) => match xs[xs.length - 1]? with
    | some y => .ok (.d y) (ρ.set i (some (.l xs.dropLast)))
    | none => .err
  | _ => .err := of_rfl rfl
theorem ePopAt_ev : ePopAt i f ρ = match ρ[i]? with
  | some (some (.l _)) => (f ρ).bind fun r ρ1 => match ρ1[i]?, view ρ1 r with
    | some (some (.l xs)), .int k => if 0 ≤ k ∧ k < 100000 then match xs[k.toNat]? with
      | some y => .ok (.d y) (ρ1.set i (some (.l (xs.eraseIdx k.toNat))))
      | none => .err
      else .err
    | _, _ => .err
  | _ => .err := of_rfl rfl
theorem sExt_ev : sExt i a ρ = match ρ[i]? with
  | some (some (.l _)) => (a ρ).thn fun r ρ1 => match ρ1[i]?, view ρ1 r with
    | some (some (.l xs)), .lst zs => if xs.length + zs.length < 100000 then .nx (ρ1.set i (some (.l (xs ++ zs)))) else .err
    | _, _ => .err
  | _ => .err := of_rfl rfl
theorem eT0_ev {g : Str → Option D} : eT0 g a ρ = (a ρ).bind fun x ρ1 => match view ρ1 x with
  | .str s => match g s with
    | some d => .ok (.d d) ρ1
    | none => .err
  | _ => .err := of_rfl rfl
theorem eT1_ev {g : Str → D → Option D} : eT1 g a b ρ = (a ρ).bind fun x ρ1 => match view ρ1 x with
  | .str s => (b ρ1).bind fun y ρ2 => match g s (view ρ2 y) with
    | some d => .ok (.d d) ρ2
    | none => .err
  | _ => .err := of_rfl rfl
end
end FP
/-! FPe: a maker whose result holds no list: list slots that are passed stay the caller's own -/
namespace FP
open PySem L2
mutual
def D.nl : D → Bool
  | .tup xs => nlL xs
  | .lst _ => false
  | .frz _ => false
  | .ins _ fs => nlF fs
  | .dct _ => false
  | .exn _ _ _ _ => false
  | _ => true
def nlL : List D → Bool
  | [] => true
  | d :: ds => d.nl && nlL ds
def nlF : List (Str × D) → Bool
  | [] => true
  | (_, d) :: ds => d.nl && nlF ds
end
def lstSlots (ρ : Rho) : List RV → Bool
  | [] => true
  | .slot i :: rs => (match ρ[i]? with | some (some (.l _)) => true | some (some (.p _)) => true | _ => false) && lstSlots ρ rs
  | _ :: rs => lstSlots ρ rs
def SV.nlI : SV → Bool
  | .i _ fs => nlF fs
  | _ => false
def ofRetL (x : Ret) (rs : List RV) (ρ : Rho) : Rs RV := match x with
  | .ok sv => if sv.nlI && lstSlots ρ rs then .ok (rvOf sv) ρ else .err
  | _ => .err
def eMakeKL (fn : List D → Ret) (as ks : Rho → Rs (List RV)) (dds : List D) : Rho → Rs RV := fun ρ => (as ρ).bind fun rs ρ1 => (ks ρ1).bind fun zs ρ2 => ofRetL (fn ((rs ++ zs).map (view ρ2) ++ dds)) (rs ++ zs) ρ2
section
variable {K : PySem.W.Frag} {B H B' H' : Hp} {σ : St} {ρ : Rho}
def CellsL (H : Hp) (A : Addr → Prop) : Prop := ∀ a, A a → ∃ xs, H a = some (.lst xs)
mutual
theorem nl_less {A : Addr → Prop} (ex : Ex B H) (c : CellsL H A) : ∀ {d : D} {v : V}, d.nl = true → Rp K B d v → Rp K (less B A) d v
  | .non, _, _, h => h
  | .bl _, _, _, h => h
  | .int _, _, _, h => h
  | .str _, _, _, h => h
  | .tup xs, _, l, ⟨a, vs, h1, h2, h3⟩ => by
    refine ⟨a, vs, h1, ?_, nlL_less ex c (by simpa [D.nl] using l) h3⟩
    rcases h2 with (h2 | ⟨o, h2⟩) | h2
    · refine .inl (.inl ?_)
      have ha : ¬ A a := fun z => by
        obtain ⟨o, q1⟩ := c a z
        rw [show H a = _ from ex a _ h2] at q1
        cases q1
      rw [less_out ha]; exact h2
    · refine .inl (.inr ⟨o, ?_⟩)
      have ha : ¬ A a := fun z => by
        obtain ⟨o', q1⟩ := c a z
        rw [show H a = _ from ex a _ h2] at q1
        cases q1
      rw [less_out ha]; exact h2
    · exact .inr h2
  | .lst _, _, l, _ => by cases l
  | .frz _, _, l, _ => by cases l
  | .ins C fs, _, l, ⟨a, dx, vs, h1, h2, h3⟩ => by
    refine ⟨a, dx, vs, h1, ?_, nlF_less ex c (by simpa [D.nl] using l) h3⟩
    have ha : ¬ A a := fun z => by
      obtain ⟨o', q1⟩ := c a z
      rw [show H a = _ from ex a _ h2] at q1
      cases q1
    rw [less_out ha]; exact h2
  | .dct _, _, l, _ => by cases l
  | .exn _ _ _ _, _, l, _ => by cases l
theorem nlL_less {A : Addr → Prop} (ex : Ex B H) (c : CellsL H A) : ∀ {ds : List D} {vs : List V}, nlL ds = true → RpL K B ds vs → RpL K (less B A) ds vs
  | [], _, _, h => h
  | d :: ds, _, l, ⟨v, r, h1, h2, h3⟩ => by
    have l' : d.nl = true ∧ nlL ds = true := by simpa [nlL] using l
    exact ⟨v, r, h1, nl_less ex c l'.1 h2, nlL_less ex c l'.2 h3⟩
theorem nlF_less {A : Addr → Prop} (ex : Ex B H) (c : CellsL H A) : ∀ {ds : List (Str × D)} {vs : List (Str × V)}, nlF ds = true → RpF K B ds vs → RpF K (less B A) ds vs
  | [], _, _, h => h
  | (n, d) :: ds, _, l, ⟨v, r, h1, h2, h3⟩ => by
    have l' : d.nl = true ∧ nlF ds = true := by simpa [nlF] using l
    exact ⟨v, r, h1, nl_less ex c l'.1 h2, nlF_less ex c l'.2 h3⟩
end
theorem frz_get {r : RV} {i : Nat} (h : r ≠ .slot i) : (frz r ρ)[i]? = ρ[i]? := by
  cases r with
  | d _ => rfl
  | own _ => rfl
  | slot j =>
    have hj : j ≠ i := fun z => h (by rw [z])
    unfold frz
    dsimp only
    split
    · rw [List.getElem?_set_ne hj]
    · rfl
theorem frzs_get : ∀ {rs : List RV} {ρ : Rho} {i : Nat}, RV.slot i ∉ rs → (frzs rs ρ)[i]? = ρ[i]?
  | [], _, _, _ => rfl
  | r :: rs, ρ, i, h => by
    show (frzs rs (frz r ρ))[i]? = _
    rw [frzs_get fun z => h (List.mem_cons_of_mem _ z), frz_get fun z => h (by rw [z]; exact List.mem_cons_self)]
theorem lst_slot : ∀ {rs : List RV} {i : Nat} {sv : SV}, lstSlots ρ rs = true → RV.slot i ∈ rs → ρ[i]? = some (some sv) → sv.owned = true → ∃ xs, sv = .l xs
  | r :: rs, i, sv, h, hm, e, ow => by
    rcases List.mem_cons.mp hm with rfl | hm
    · have h' : (match ρ[i]? with | some (some (.l _)) => true | some (some (.p _)) => true | _ => false) = true := by
        unfold lstSlots at h
        exact (Bool.and_eq_true_iff.mp h).1
      rw [e] at h'
      cases sv with
      | l xs => exact ⟨xs, rfl⟩
      | p d => cases ow
      | _ => cases h'
    · have h' : lstSlots ρ rs = true := by
        cases r with
        | slot j => unfold lstSlots at h; exact (Bool.and_eq_true_iff.mp h).2
        | d _ => exact h
        | own _ => exact h
      exact lst_slot h' hm e ow
theorem call_postL {W : WX} {Bs Hs : Hp} {ρs : Rho} {Q : VK} {rs : List RV} {vs dvs : List V} {dds : List D} {fn : List D → Ret} {E : XK} (S : SR K B H σ ρ) (st : Step Bs Hs σ ρs B H σ ρ) (fl : Fills ρs ρ) (hvs : RVs K Hs B H σ ρ rs vs) (hd : ∀ B, RpL K B dds dvs)
    (post : Post K W Bs Hs σ ρs (fun B' H' ρ' r => ∀ v, RVr K Hs B' H' σ ρ' r v → Q v H') (ofRetL (fn (rs.map (view ρ) ++ dds)) rs ρ)) : spF K fn (vs ++ dvs) H Q E := by
  obtain ⟨B2, x2, S2, st2, f2, rp, new2, own2, gh2, nw2⟩ := takes S st hvs.1 hvs.2
  refine ⟨B2, _, S2.ex, rp.append (hd B2), ?_⟩
  cases ef : fn (rs.map (view ρ) ++ dds) with
  | err => rw [ef] at post; exact post.elim
  | exc x => rw [ef] at post; exact post.elim
  | ok sv =>
    rw [ef] at post
    intro B' H' v kp hsv hown
    unfold ofRetL at post
    dsimp only at post
    split at post
    case isFalse => exact post.elim
    case isTrue hc =>
      have hnl := (Bool.and_eq_true_iff.mp hc).1
      have hsl := (Bool.and_eq_true_iff.mp hc).2
      let A : Addr → Prop := fun a => OwnAt σ ρ a ∧ ¬ OwnAt σ (frzs rs ρ) a
      have lent : ∀ a, A a → ∃ xs, H a = some (.lst xs) := by
        rintro a ⟨⟨i, sv', h1, h2, h3⟩, hn⟩
        have hm : RV.slot i ∈ rs := by
          refine Classical.byContradiction fun hm => hn ⟨i, sv', ?_, h2, h3⟩
          rw [frzs_get hm]; exact h1
        obtain ⟨xs, rfl⟩ := lst_slot hsl hm h1 h2
        obtain ⟨v', e1, a', us, e2, e3, e4, e5⟩ := S.slot i _ h1
        rw [h3] at e1; cases e1; cases e2
        exact ⟨us, e4⟩
      have stay : ∀ a, OwnAt σ ρ a → ∃ o, H a = some o ∧ H' a = some o ∧ less B' A a = none := by
        rintro a ⟨i, sv', h1, h2, h3⟩
        obtain ⟨v', e1, e2⟩ := S.slot i sv' h1
        rw [h3] at e1; cases e1
        obtain ⟨a', u, c1, c2, c3⟩ := e2.cell h2
        cases c1
        by_cases ha : OwnAt σ (frzs rs ρ) a
        · obtain ⟨j, sv2, g1, g2, g3⟩ := ha
          obtain ⟨v2, g4, g5⟩ := S2.slot j sv2 g1
          rw [g3] at g4; cases g4
          obtain ⟨a2, u2, k1, k2, k3⟩ := g5.cell g2
          cases k1
          rw [k2] at c2; cases c2
          obtain ⟨m1, m2⟩ := kp.fr a _ k2 k3
          refine ⟨_, k2, m1, ?_⟩
          cases e : less B' A a with
          | none => rfl
          | some w => rw [less_of e] at m2; cases m2
        · refine ⟨u, c2, ?_, less_in ⟨⟨i, sv', h1, h2, h3⟩, ha⟩⟩
          cases eB : B2 a with
          | none => exact (kp.fr a u c2 eB).1
          | some u' =>
            have z := nw2 a u' c3 eB
            rw [c2] at z; cases z
            have n := e2.ng h2 c2
            exact (kp.ex a _ ((kp.bb a _ eB).get n)).get n
      have cells : CellsL H' A := fun a ha => by
        obtain ⟨o, q1, q2, _⟩ := stay a ha.1
        obtain ⟨xs, q3⟩ := lent a ha
        rw [q1] at q3; cases q3
        exact ⟨xs, q2⟩
      have bl : Ex B (less B' A) := fun a o h => by
        have ha : ¬ A a := fun z => by
          obtain ⟨i, sv', h1, h2, h3⟩ := z.1
          obtain ⟨v', e1, e2⟩ := S.slot i sv' h1
          rw [h3] at e1; cases e1
          obtain ⟨a', u, c1, c2, c3⟩ := e2.cell h2
          cases c1
          rw [h] at c3; cases c3
        rw [less_out ha]
        exact (x2.trans kp.bb) a o h
      have ghl : ∀ c r, B c = some (.own r) → H r ≠ none → less B' A c = some (.own r) ∧ H' c = H c := fun c r h1 h2 => by
        have hc : ¬ A c := fun z => by
          obtain ⟨i, sv', g1, g2, g3⟩ := z.1
          obtain ⟨v', e1, e2⟩ := S.slot i sv' g1
          rw [g3] at e1; cases e1
          obtain ⟨a', u, c1, c2, c3⟩ := e2.cell g2
          cases c1
          rw [h1] at c3; cases c3
        obtain ⟨m1, m2⟩ := kp.gh c r (gh2 c r h1) h2
        exact ⟨by rw [less_out hc]; exact m1, m2⟩
      have S3 : SR K (less B' A) H' σ ρ := by
        refine ⟨fun a o h => kp.ex a o (less_of h), S.len, fun i sv' h => ?_, S.dis⟩
        obtain ⟨v', e1, e2⟩ := S.slot i sv' h
        refine ⟨v', e1, e2.later bl (fun ow a o hv h1 h2 => ?_) fun _ a _ c h1 h2 => ghl c a h1 h2⟩
        obtain ⟨o', q1, q2, q3⟩ := stay a ⟨i, sv', h, ow, by rw [e1, hv]⟩
        rw [h1] at q1; cases q1
        exact ⟨q2, q3⟩
      have st3 : Step Bs Hs σ ρs (less B' A) H' σ ρ := by
        refine ⟨st.bb.trans bl, fun a o h1 h2 h3 => ?_, fun a h => st.dom a (kp.dom a h), fun c r h1 h2 h3 => ?_⟩
        · obtain ⟨g1, g2, g3⟩ := st.fr a o h1 h2 h3
          obtain ⟨k1, k2, k3⟩ := st2.fr a o h1 h2 h3
          obtain ⟨m1, m2⟩ := kp.fr a o k1 k2
          refine ⟨m1, ?_, g3⟩
          cases e : less B' A a with
          | none => rfl
          | some w => rw [less_of e] at m2; cases m2
        · obtain ⟨g1, g2, g3⟩ := st.gh c r h1 h2 h3
          obtain ⟨m1, m2⟩ := ghl c r g1 (fun z => h2 (st.dom r z))
          exact ⟨m1, m2.trans g2, g3⟩
      cases sv with
      | i C fs =>
        obtain ⟨a, dx, us, e1, e2, e3, e4⟩ := hsv
        obtain ⟨nt, a', h1, h2⟩ := hown rfl
        refine post (less B' A) H' S3 st3 fl v ⟨rfl, ⟨a, dx, us, e1, ?_, e3, nlF_less kp.ex cells hnl e4⟩, rfl, a', h1, st.dom a' h2, S.notOwn h2⟩
        cases e : less B' A a with
        | none => rfl
        | some w => rw [less_of e] at e2; cases e2
      | _ => cases hnl
end
section
variable {X : Cx} {W : WX} {p pos : Pos} {x : Str} {e : Expr} {es : List Expr} {kws : List Keyword} {As Ks : Rho → Rs (List RV)} {k : Nat} {f C : Addr} {fd : FuncData} {ps ks : List Str} {fi : Addr → List D → Option Fs} {dds : List D} {dvs : List V}
theorem fe_makeKL {gf : List Value → List Value → List Value} {gV : List V → List V → List V} (M : Mk X.K C f) (Fn : FnOk X.prog X.w X.K X.mg X.base CX0 k f fd ps (spI X.K C fi)) (hr : Room (k + 1) X.A) (hg : Gl X x) (hm : X.mg x = some (.ref C)) (hb : KBn X.K fd ps ((e :: es).length + 1) ks gf gV)
    (hgv : ∀ (y : V) (vs zs : List V), vs.length = (e :: es).length → zs.length = ks.length → gV (y :: vs) zs = y :: (vs ++ zs ++ dvs)) (hdd : ∀ B, RpL X.K B dds dvs)
    (ha : FA X W (e :: es) As) (hk : FK X W kws Ks) (la : ∀ ρ rs ρ', As ρ = .ok rs ρ' → rs.length = (e :: es).length) (lk : ∀ ρ rs ρ', Ks ρ = .ok rs ρ' → rs.length = ks.length)
    (hall : (backToKw pos (keywordEach kws X.env)).all (·.1.isSome) = true := by rfl) (hks : (backToKw pos (keywordEach kws X.env)).filterMap (·.1) = ks := by rfl) (hdb : (x == ("__debug__" : Str)) = false := by decide)
    (he : starEach (e :: es) X.env = (false, eval e X.env) :: starEach es X.env := by rfl) (hpl : ((backTo pos (starEach (e :: es) X.env)).any (·.1) || (backToKw pos (keywordEach kws X.env)).any (·.1.isNone)) = false := by rfl) :
    FE X W (.Call (.Name x p) (e :: es) kws pos) (eMakeKL (mkF C fi) As Ks dds) := by
  obtain ⟨t, pa, oa⟩ := ha.ex
  obtain ⟨tk, pk, ok⟩ := hk.ex
  refine ⟨_, pe_makeK M Fn hr hg hm hb pass0 pa pk hall hks hdb he hpl, fun B H σ ρ Q S post => ?_⟩
  cases e1 : As ρ with
  | err => unfold eMakeKL at post; rw [e1] at post; exact post.elim
  | exc y ρ1 =>
    unfold eMakeKL at post; rw [e1] at post
    refine oa B H σ ρ _ S ?_
    rw [e1]
    exact post
  | ok rs ρ1 =>
    unfold eMakeKL at post; rw [e1] at post
    refine oa B H σ ρ _ S ?_
    rw [e1]
    intro B1 H1 S1 st1 f1 vs hvs
    cases e2 : Ks ρ1 with
    | err => rw [bind_ok, e2] at post; exact post.elim
    | exc y ρ2 =>
      rw [bind_ok, e2] at post
      refine ok B1 H1 σ ρ1 _ S1 ?_
      rw [e2]
      exact fun B' H' cls d S' st' xr => post B' H' cls d S' (st1.trans st') (xr.h0 st1.dom)
    | ok zs ρ2 =>
      rw [bind_ok, e2] at post
      refine ok B1 H1 σ ρ1 _ S1 ?_
      rw [e2]
      intro B2 H2 S2 st2 f2 ws hws
      have lv : vs.length = (e :: es).length := by rw [rvl_len hvs.1]; exact la _ _ _ e1
      have lw : ws.length = ks.length := by rw [rvl_len hws.1]; exact lk _ _ _ e2
      refine ⟨lv, lw, fun q dx hq hdx hne => ?_⟩
      rw [hgv _ _ _ lv lw]
      exact mk_sp (call_postL (E := fun _ _ _ => False) S2 (st1.trans st2) (f1.trans f2) (rvs_app st1 st2 f2 hvs hws) hdd post) hq hdx hne
end
section
variable {ρ : Rho} {as ks : Rho → Rs (List RV)}
theorem eMakeKL_ev {fn : List D → Ret} {dds : List D} : eMakeKL fn as ks dds ρ = (as ρ).bind fun rs ρ1 => (ks ρ1).bind fun zs ρ2 => ofRetL (fn ((rs ++ zs).map (view ρ2) ++ dds)) (rs ++ zs) ρ2 := of_rfl rfl
theorem ofRetL_i {C : Addr} {fs : List (Str × D)} {rs : List RV} (h1 : nlF fs = true) (h2 : lstSlots ρ rs = true) : ofRetL (.ok (.i C fs)) rs ρ = .ok (.own (.i C fs)) ρ := by
  show (if nlF fs && lstSlots ρ rs then _ else _) = _
  rw [h1, h2]; rfl
end
end FP
/-! FPf: f(.., k = v) of a def where the last keyword-only argument lacks (its default is a number). -/
namespace FP
open PySem L2 PyProof.Rows
theorem kwD_mkI {K : PySem.W.Frag} {x qual : Str} {st : Stmt} {f D : Addr} {oc : Value} {od : Option Addr} {doc pm : Value} {an : Option Addr} {cdv ct : Value} {osl : Array (Option Value)} (lk : K.lookup f = some ⟨oc, od, .func (PySem.W.fnOf x qual (defArgs st) (defBody st) (defScope st) .none (.ref D) doc pm an cdv ct), osl⟩)
    (hcd : PySem.W.codeIn K cdv qual = true) (kp : PySem.W.keepIn K (.ref f) = true) {w : Str} {i : Int} {t : Tok} (hw : PySem.W.nsIn K D w = some (some (.int i t)))
    {n : Nat} {ks ps : List Str} (h : ∀ (D : Addr) (doc pm : Value) (an : Option Addr) (cdv ct : Value) (us mv ws : List Value), us.length = n → mv.length = 1 → ws.length = ks.length →
      KwChain D ([w].zip mv) (bindArgs (PySem.W.fnOf x qual (defArgs st) (defBody st) (defScope st) .none (.ref D) doc pm an cdv ct) ⟨us, ks.zip ws⟩) (ps.zip (us ++ (ws ++ mv)))) :
    KwD K (PySem.W.fnOf x qual (defArgs st) (defBody st) (defScope st) .none (.ref D) doc pm an cdv ct) ps n ks [.int i] := by
  have F : FunD K x qual (defArgs st) (defBody st) (defScope st) [] [(w, V.int i)] f (PySem.W.fnOf x qual (defArgs st) (defBody st) (defScope st) .none (.ref D) doc pm an cdv ct) :=
    ⟨⟨oc, od, .none, .ref D, doc, pm, an, cdv, ct, osl, rfl, lk, hcd, .inl ⟨rfl, rfl⟩, .inr ⟨D, rfl, fun q hq => by
      cases List.mem_singleton.mp hq
      exact ⟨.int i t, hw, ⟨_, rfl⟩⟩⟩⟩, kp⟩
  obtain ⟨mv, hb⟩ := F.kbinds0 (ps := ps) n ks [(w, V.int i)] (fun us mv ws => us ++ (ws ++ mv)) (by simp) (fun q hq => hq) (fun r1 r2 r3 => Vals.append r1 (Vals.append r3 r2)) h
  exact ⟨_, [V.int i], hb, fun B => .cons rfl .nil⟩
section
variable {X : Cx} {W : WX} {p pos : Pos} {x : Str} {e : Expr} {es : List Expr} {kws : List Keyword} {As Ks : Rho → Rs (List RV)} {k : Nat} {f : Addr} {fd : FuncData} {ps ks : List Str} {fn : List D → Ret}
theorem fe_callKD {dds : List D} (Fn : FnOk X.prog X.w X.K X.mg X.base CX0 k f fd ps (spF X.K fn)) (hr : Room k X.A) (hg : Gl X x) (hm : X.mg x = some (.ref f)) (hkp : PySem.W.keepIn X.K (.ref f) = true) (hb : KwD X.K fd ps (e :: es).length ks dds)
    (ha : FA X W (e :: es) As) (hk : FK X W kws Ks) (la : ∀ ρ rs ρ', As ρ = .ok rs ρ' → rs.length = (e :: es).length) (lk : ∀ ρ rs ρ', Ks ρ = .ok rs ρ' → rs.length = ks.length)
    (hall : (backToKw pos (keywordEach kws X.env)).all (·.1.isSome) = true := by rfl) (hks : (backToKw pos (keywordEach kws X.env)).filterMap (·.1) = ks := by rfl) (hdb : (x == ("__debug__" : Str)) = false := by decide)
    (he : starEach (e :: es) X.env = (false, eval e X.env) :: starEach es X.env := by rfl) (hpl : ((backTo pos (starEach (e :: es) X.env)).any (·.1) || (backToKw pos (keywordEach kws X.env)).any (·.1.isNone)) = false := by rfl) :
    FE X W (.Call (.Name x p) (e :: es) kws pos) (eMakeK fn As Ks dds) := by
  obtain ⟨gf, dvs, hb, hdd⟩ := hb.ex
  exact fe_callK Fn hr hg hm hkp hb (fun vs zs _ _ => by simp) hdd ha hk la lk hall hks hdb he hpl
end
end FP
/-! FPg: x in ys for data of any depth; x >= y for alike data. -/
namespace FP
open PySem L2 PySem.W PyProof.Rows
theorem toPyL_map : ∀ ds : List D, toPyL ds = ds.map toPy
  | [] => rfl
  | d :: ds => by rw [List.map_cons, ← toPyL_map ds]; rfl
theorem hu65 {k : Nat} {A : Around} (hr : Room k A) : A.units + 65 < cLine := by
  have := hr.un
  omega
def inD (x : D) (ds : List D) : Bool := ds.any fun z => PyData.eqv (toPy z) (toPy x)
def oInD : D → D → Option D
  | x, .lst ds => if dok x = true ∧ dok (.lst ds) = true then some (.bl (inD x ds)) else none
  | _, _ => none
def oNotInD : D → D → Option D
  | x, .lst ds => if dok x = true ∧ dok (.lst ds) = true then some (.bl (!inD x ds)) else none
  | _, _ => none
def geOk (x y : D) : Bool := pyOk x && pyOk y && alike (toPy x) (toPy y) && decide ((toPy x).depth ≤ 60) && (match x with | .tup _ => true | .lst _ => true | _ => false)
def oGeD (x y : D) : Option D := if geOk x y = true then some (.bl (!dataLt (toPy x) (toPy y))) else none
section
variable {X : Cx}
def rGeD (K : PySem.W.Frag) : R2 := fun x y H Q => ∃ d e, Dp K H x d ∧ Dp K H y e ∧ alike d e = true ∧ d ≠ .none ∧ d.depth ≤ 60 ∧ Q (.bl (!dataLt d e)) H
theorem op_geD (hu : X.A.units + 64 < cLine) : OpR X (compareOp .GtE) (rGeD X.K) := by
  intro pins s σ H x y v u Q I rx ry h
  obtain ⟨d, e, hd, he, al, hn, hdp, q⟩ := h
  obtain ⟨as, r1⟩ := Dp.reads I d x v hd rx
  obtain ⟨bs, r2⟩ := Dp.reads I e y u he ry
  exact ge_data r1 r2 al hn (by omega) ⟨.bl _, H, I, rfl, q⟩
theorem o2_geD (hu : X.A.units + 64 < cLine) : Op2 X (compareOp .GtE) oGeD := by
  refine ⟨_, op_geD hu, fun H x y dx dy d Q hx hy e k => ?_⟩
  unfold oGeD at e
  split at e
  · rename_i h
    cases e
    unfold geOk at h
    simp only [Bool.and_eq_true, decide_eq_true_eq] at h
    obtain ⟨⟨⟨⟨h1, h2⟩, h3⟩, h4⟩, h5⟩ := h
    refine ⟨_, _, dp_of hx h1, dp_of hy h2, h3, ?_, h4, k _ fun _ => rfl⟩
    cases dx with
    | tup xs => exact fun z => by cases z
    | lst xs => exact fun z => by cases z
    | _ => cases h5
  · cases e
theorem o2_inD (hu : X.A.units + 65 < cLine) : Op2 X (compareOp .In) oInD := by
  refine ⟨_, op_inD hu, fun H x y dx dy d Q hx hy e k => ?_⟩
  unfold oInD at e
  split at e
  · rename_i ds
    split at e
    · rename_i h
      cases e
      obtain ⟨g1, g2⟩ := dok_and h.1
      obtain ⟨g3, g4⟩ := dok_and h.2
      have hp : Dp X.K H y (.list (toPyL ds)) := dp_of hy g3
      have g4' : SeqAt.shaped (.list (toPyL ds)) = true := g4
      refine ⟨_, toPyL ds, dp_of hx g1, hp, g2, g4', ?_⟩
      rw [toPyL_map, List.any_map]
      exact k _ fun _ => rfl
    · cases e
  · cases e
theorem o2_notInD (hu : X.A.units + 65 < cLine) : Op2 X (compareOp .NotIn) oNotInD := by
  refine ⟨_, op_notInD hu, fun H x y dx dy d Q hx hy e k => ?_⟩
  unfold oNotInD at e
  split at e
  · rename_i ds
    split at e
    · rename_i h
      cases e
      obtain ⟨g1, g2⟩ := dok_and h.1
      obtain ⟨g3, g4⟩ := dok_and h.2
      have hp : Dp X.K H y (.list (toPyL ds)) := dp_of hy g3
      have g4' : SeqAt.shaped (.list (toPyL ds)) = true := g4
      refine ⟨_, toPyL ds, dp_of hx g1, hp, g2, g4', ?_⟩
      rw [toPyL_map, List.any_map]
      exact k _ fun _ => rfl
    · cases e
  · cases e
end
end FP
/-! FPh: f(k = v, ..) without positional arguments; several keyword-only arguments that lack (their defaults are numbers). -/
namespace FP
open PySem L2 PyProof.Rows
section
variable {X : Cx} {CX : CXT} {k : Nat} {f : Addr} {fd : FuncData} {ps ks : List Str} {sp : Sp} {E : XK} {x : Str} {p pos : Pos} {kws : List Keyword} {tk : TA} {g : List Value → List Value → List Value} {gV : List V → List V → List V}
theorem pe_callN0 (F : FnOk X.prog X.w X.K X.mg X.base CX k f fd ps sp) (hr : Room k X.A) (hg : Gl X x) (hm : X.mg x = some (.ref f)) (hk : PySem.W.keepIn X.K (.ref f) = true) (hb : KBn X.K fd ps 0 ks g gV) (hx : Passes CX X E)
    (hkw : PK X kws tk) (hall : (backToKw pos (keywordEach kws X.env)).all (·.1.isSome) = true := by rfl) (hks : (backToKw pos (keywordEach kws X.env)).filterMap (·.1) = ks := by rfl)
    (hdb : (x == ("__debug__" : Str)) = false := by decide)
    (hpl : ((backTo pos (starEach [] X.env)).any (·.1) || (backToKw pos (keywordEach kws X.env)).any (·.1.isNone)) = false := by rfl) :
    PE X (.Call (.Name x p) [] kws pos) (tCallN 0 ks.length sp gV E (fun _ H Q => Q [] H) tk) := by
  refine ⟨fun pins s σ H Q I h => ?_⟩
  refine wpAny_Call_Name_kw (ld_glob I hg hm ?_ hdb)
  refine PySem.W.callWith_KW0 (h₀ := X.base) I.ok.mod.kin hk hall ?_ hpl
  refine thn (hkw.run pos pins s σ H _ I h) fun ws s2 ⟨zs, H2, I2, rz, l1, l2, q2⟩ => ⟨I2.kIn, ?_⟩
  rw [hks]
  exact run_fnN F hr hb hx I2 .nil rz l1 l2 q2
end
/-- the numbers that the lacking arguments have -/
theorem kwD_mkN {K : PySem.W.Frag} {x qual : Str} {st : Stmt} {f D : Addr} {oc : Value} {od : Option Addr} {doc pm : Value} {an : Option Addr} {cdv ct : Value} {osl : Array (Option Value)} (lk : K.lookup f = some ⟨oc, od, .func (PySem.W.fnOf x qual (defArgs st) (defBody st) (defScope st) .none (.ref D) doc pm an cdv ct), osl⟩)
    (hcd : PySem.W.codeIn K cdv qual = true) (kp : PySem.W.keepIn K (.ref f) = true) {ms : List (Str × Int)} (hne : ms ≠ []) (hw : ∀ q, q ∈ ms → ∃ t, PySem.W.nsIn K D q.1 = some (some (.int q.2 t)))
    {n : Nat} {ks ps : List Str} (h : ∀ (D : Addr) (doc pm : Value) (an : Option Addr) (cdv ct : Value) (us mv ws : List Value), us.length = n → mv.length = ms.length → ws.length = ks.length →
      KwChain D ((ms.map (·.1)).zip mv) (bindArgs (PySem.W.fnOf x qual (defArgs st) (defBody st) (defScope st) .none (.ref D) doc pm an cdv ct) ⟨us, ks.zip ws⟩) (ps.zip (us ++ (ws ++ mv)))) :
    KwD K (PySem.W.fnOf x qual (defArgs st) (defBody st) (defScope st) .none (.ref D) doc pm an cdv ct) ps n ks (ms.map fun q => .int q.2) := by
  have F : FunD K x qual (defArgs st) (defBody st) (defScope st) [] (ms.map fun q => (q.1, V.int q.2)) f (PySem.W.fnOf x qual (defArgs st) (defBody st) (defScope st) .none (.ref D) doc pm an cdv ct) :=
    ⟨⟨oc, od, .none, .ref D, doc, pm, an, cdv, ct, osl, rfl, lk, hcd, .inl ⟨rfl, rfl⟩, .inr ⟨D, rfl, fun q hq => by
      obtain ⟨m, hm, rfl⟩ := List.mem_map.mp hq
      obtain ⟨t, ht⟩ := hw m hm
      exact ⟨.int m.2 t, ht, ⟨_, rfl⟩⟩⟩⟩, kp⟩
  obtain ⟨mv, hb⟩ := F.kbinds0 (ps := ps) n ks (ms.map fun q => (q.1, V.int q.2)) (fun us mv ws => us ++ (ws ++ mv)) (by cases ms with | nil => exact absurd rfl hne | cons a b => simp) (fun q hq => hq) (fun r1 r2 r3 => Vals.append r1 (Vals.append r3 r2)) (fun D doc pm an cdv ct us mv ws h1 h2 h3 => by
    have := h D doc pm an cdv ct us mv ws h1 (by rw [h2, List.length_map]) h3
    rw [List.map_map]
    exact this)
  refine ⟨_, _, hb, fun B => ?_⟩
  clear hb hw h hne F
  induction ms with
  | nil => exact .nil
  | cons m ms ih => exact .cons rfl ih
section
variable {X : Cx} {W : WX} {p pos : Pos} {x : Str} {kws : List Keyword} {Ks : Rho → Rs (List RV)} {k : Nat} {f : Addr} {fd : FuncData} {ps ks : List Str} {fn : List D → Ret} {dds : List D} {dvs : List V}
theorem fe_callK0 {gf : List Value → List Value → List Value} {gV : List V → List V → List V} (Fn : FnOk X.prog X.w X.K X.mg X.base CX0 k f fd ps (spF X.K fn)) (hr : Room k X.A) (hg : Gl X x) (hm : X.mg x = some (.ref f)) (hkp : PySem.W.keepIn X.K (.ref f) = true) (hb : KBn X.K fd ps 0 ks gf gV)
    (hgv : ∀ (vs zs : List V), vs.length = 0 → zs.length = ks.length → gV vs zs = vs ++ zs ++ dvs) (hdd : ∀ B, RpL X.K B dds dvs)
    (hk : FK X W kws Ks) (lk : ∀ ρ rs ρ', Ks ρ = .ok rs ρ' → rs.length = ks.length)
    (hall : (backToKw pos (keywordEach kws X.env)).all (·.1.isSome) = true := by rfl) (hks : (backToKw pos (keywordEach kws X.env)).filterMap (·.1) = ks := by rfl) (hdb : (x == ("__debug__" : Str)) = false := by decide)
    (hpl : ((backTo pos (starEach [] X.env)).any (·.1) || (backToKw pos (keywordEach kws X.env)).any (·.1.isNone)) = false := by rfl) :
    FE X W (.Call (.Name x p) [] kws pos) (eMakeK fn eNil Ks dds) := by
  obtain ⟨ta, pa, oa⟩ := (fa_nil (X := X) (W := W)).ex
  obtain ⟨tk, pk, ok⟩ := hk.ex
  refine ⟨_, pe_callN0 Fn hr hg hm hkp hb pass0 pk hall hks hdb hpl, fun B H σ ρ Q S post => ?_⟩
  unfold eMakeK at post
  have e1 : eNil ρ = .ok [] ρ := rfl
  rw [e1, bind_ok] at post
  cases e2 : Ks ρ with
  | err => rw [e2] at post; exact post.elim
  | exc y ρ2 =>
    rw [e2] at post
    refine ok B H σ ρ _ S ?_
    rw [e2]
    exact post
  | ok zs ρ2 =>
    rw [e2, bind_ok] at post
    refine ok B H σ ρ _ S ?_
    rw [e2]
    intro B2 H2 S2 st2 f2 ws hws
    have lw : ws.length = ks.length := by rw [rvl_len hws.1]; exact lk _ _ _ e2
    refine ⟨rfl, lw, ?_⟩
    rw [hgv _ _ rfl lw]
    exact call_post (E := fun _ _ _ => False) S2 st2 f2 hws hdd post
theorem fe_callKD0 {dds : List D} (Fn : FnOk X.prog X.w X.K X.mg X.base CX0 k f fd ps (spF X.K fn)) (hr : Room k X.A) (hg : Gl X x) (hm : X.mg x = some (.ref f)) (hkp : PySem.W.keepIn X.K (.ref f) = true) (hb : KwD X.K fd ps 0 ks dds)
    (hk : FK X W kws Ks) (lk : ∀ ρ rs ρ', Ks ρ = .ok rs ρ' → rs.length = ks.length)
    (hall : (backToKw pos (keywordEach kws X.env)).all (·.1.isSome) = true := by rfl) (hks : (backToKw pos (keywordEach kws X.env)).filterMap (·.1) = ks := by rfl) (hdb : (x == ("__debug__" : Str)) = false := by decide)
    (hpl : ((backTo pos (starEach [] X.env)).any (·.1) || (backToKw pos (keywordEach kws X.env)).any (·.1.isNone)) = false := by rfl) :
    FE X W (.Call (.Name x p) [] kws pos) (eMakeK fn eNil Ks dds) := by
  obtain ⟨gf, dvs, hb, hdd⟩ := hb.ex
  exact fe_callK0 Fn hr hg hm hkp hb (fun vs zs _ _ => by simp) hdd hk lk hall hks hdb hpl
end
end FP
/-! FPi: the outermost def: lists that it spoils and never reads again -/
namespace FP
open PySem L2
def PostT (K : PySem.W.Frag) (D : Ends) : Out → Prop
  | .nx ρ' => ∀ B' H' σ', SR K B' H' σ' ρ' → D.nx σ' H'
  | .rt (.d d) _ => ∀ B' H' v, Rp K B' d v → D.rt v H'
  | _ => False
structure FBT (X : Cx) (W : WX) (sts : List Stmt) (F : Rho → Out) : Prop where
  ex : ∃ ts, PSs X sts ts ∧ ∀ B H σ ρ D, SR X.K B H σ ρ → PostT X.K D (F ρ) → ts D σ H
section
variable {X : Cx} {W : WX} {st : Stmt} {sts : List Stmt} {F G : Rho → Out}
theorem postT_S {K : PySem.W.Frag} {B H : Hp} {σ : St} {ρ : Rho} {D : Ends} {x : Out} (post : PostT K D x) : PostS K W B H σ ρ D x := by
  cases x with
  | nx ρ' => exact fun B' H' σ' S' _ => post B' H' σ' S'
  | rt r ρ' =>
    cases r with
    | d d => exact fun B' H' σ' v _ _ hv => post B' H' v hv
    | own _ => exact post.elim
    | slot _ => exact post.elim
  | err => exact post.elim
  | bk _ => exact post.elim
  | ct _ => exact post.elim
  | exc _ _ => exact post.elim
theorem fbt_of (h : FB X W sts F) : FBT X W sts F := by
  obtain ⟨t, p, o⟩ := h.ex
  exact ⟨t, p, fun B H σ ρ D S post => o B H σ ρ D S (postT_S post)⟩
theorem fbt_cons (h : FS X W st F) (h' : FBT X W sts G) : FBT X W (st :: sts) (sSeq F G) := by
  obtain ⟨t, p, o⟩ := h.ex
  obtain ⟨t', p', o'⟩ := h'.ex
  refine ⟨_, pss_cons p p', fun B H σ ρ D S post => ?_⟩
  refine o B H σ ρ { D with nx := t' D } S ?_
  unfold sSeq at post
  cases e : F ρ with
  | nx ρ' =>
    rw [e] at post
    exact fun B' H' σ' S' _ => o' B' H' σ' ρ' D S' post
  | rt r ρ' =>
    rw [e] at post
    cases r with
    | d d => exact fun B' H' σ' v _ _ hv => post B' H' v hv
    | own _ => exact post.elim
    | slot _ => exact post.elim
  | err => rw [e] at post; exact post.elim
  | bk _ => rw [e] at post; exact post.elim
  | ct _ => rw [e] at post; exact post.elim
  | exc _ _ => rw [e] at post; exact post.elim
end
/-! ## What does not lean on lists -/
def nlSlot : SV → Bool
  | .p d => d.nl
  | .l xs => nlL xs
  | .i _ fs => nlF fs
  | _ => false
def cl1 : Option SV → Option SV
  | some sv => if nlSlot sv then some sv else none
  | none => none
def cleanR (i : Nat) (ρ : Rho) : Rho := (ρ.map cl1).set i none
theorem cleanR_get {i j : Nat} {ρ : Rho} {sv : SV} (h : (cleanR i ρ)[j]? = some (some sv)) : j ≠ i ∧ ρ[j]? = some (some sv) ∧ nlSlot sv = true := by
  unfold cleanR at h
  have hj : j ≠ i := by
    rintro rfl
    rw [List.getElem?_set] at h
    simp at h
  rw [List.getElem?_set_ne (Ne.symm hj), List.getElem?_map] at h
  obtain ⟨o, h1, h2⟩ := Option.map_eq_some_iff.mp h
  cases o with
  | none => cases h2
  | some sv' =>
    unfold cl1 at h2
    dsimp only at h2
    split at h2
    · rename_i hn
      cases h2
      exact ⟨hj, h1, hn⟩
    · cases h2
section
variable {K : PySem.W.Frag} {B H H' : Hp} {σ : St} {ρ : Rho} {i : Nat}
theorem SR.clean (S : SR K B H σ ρ) (Z : Addr → Prop) (hz : ∀ c, Z c → (∃ xs, B c = some (.lst xs)) ∨ ∃ sv : SV, ρ[i]? = some (some sv) ∧ sv.owned = true ∧ σ[i]? = some (some (.ref c)))
    (k : ∀ c o, H c = some o → ¬ Z c → H' c = some o) : SR K (less B fun c => ∃ xs, B c = some (.lst xs)) H' σ (cleanR i ρ) := by
  let A : Addr → Prop := fun c => ∃ xs, B c = some (.lst xs)
  have cells : CellsL H A := fun c ⟨xs, h⟩ => ⟨xs, S.ex c _ h⟩
  have zn : ∀ c, Z c → (∃ xs, B c = some (.lst xs)) ∨ B c = none := fun c hc => by
    rcases hz c hc with h | ⟨sv, h1, h2, h3⟩
    · exact .inl h
    · obtain ⟨v, e1, e2⟩ := S.slot i sv h1
      rw [h3] at e1; cases e1
      obtain ⟨a, u, q1, q2, q3⟩ := e2.cell h2
      cases q1
      exact .inr q3
  refine ⟨fun c o h => ?_, by unfold cleanR; rw [List.length_set, List.length_map]; exact S.len, fun j sv h => ?_, fun j l sv sv' a h1 o1 h2 o2 h3 h4 => ?_⟩
  · have hB := less_of h
    have nA : ¬ A c := fun z => by
      rw [less_in (A := A) z] at h; cases h
    have nZ : ¬ Z c := fun z => by
      rcases zn c z with q | q
      · exact nA q
      · rw [q] at hB; cases hB
    have h0 := S.ex c o hB
    rcases mark_dec o with ⟨r, rfl⟩ | n
    · cases e : H c with
      | none => exact absurd e h0.1
      | some u =>
        have := k c u e nZ
        show H' c ≠ none ∧ ∀ vs, H' c ≠ some (.xd vs)
        rw [this, ← e]; exact h0
    · exact Kp.of (k c o (h0.get n) nZ)
  · obtain ⟨hj, e1, hn⟩ := cleanR_get h
    obtain ⟨v, g1, g2⟩ := S.slot j sv e1
    refine ⟨v, g1, ?_⟩
    cases sv with
    | p d => exact nl_less (A := A) S.ex cells hn g2
    | l xs =>
      obtain ⟨a, vs, rfl, h2, h3, h4⟩ := g2
      refine ⟨a, vs, rfl, ?_, k a _ h3 fun z => ?_, nlL_less (A := A) S.ex cells hn h4⟩
      · cases e : less B A a with
        | none => rfl
        | some u => rw [less_of e] at h2; cases h2
      · rcases hz a z with ⟨xs', q⟩ | ⟨sv, q1, q2, q3⟩
        · rw [h2] at q; cases q
        · exact hj (S.dis j i _ sv a e1 rfl q1 q2 g1 q3)
    | i C fs =>
      obtain ⟨a, dx, vs, rfl, h2, h3, h4⟩ := g2
      refine ⟨a, dx, vs, rfl, ?_, k a _ h3 fun z => ?_, nlF_less (A := A) S.ex cells hn h4⟩
      · cases e : less B A a with
        | none => rfl
        | some u => rw [less_of e] at h2; cases h2
      · rcases hz a z with ⟨xs', q⟩ | ⟨sv, q1, q2, q3⟩
        · rw [h2] at q; cases q
        · exact hj (S.dis j i _ sv a e1 rfl q1 q2 g1 q3)
    | _ => cases hn
  · obtain ⟨_, e1, _⟩ := cleanR_get h1
    obtain ⟨_, e2, _⟩ := cleanR_get h2
    exact S.dis j l sv sv' a e1 o1 e2 o2 h3 h4
end
/-- the list at a slot, whoever holds it -/
def listAt (i : Nat) (ρ : Rho) : Option (List D) := match ρ[i]? with
  | some (some (.l xs)) => some xs
  | some (some (.p (.lst xs))) => some xs
  | _ => none
def isL : D → Bool
  | .lst ys => decide (ys.length < 100000)
  | _ => false
theorem listAt_raw {K : PySem.W.Frag} {B H : Hp} {σ : St} {ρ : Rho} {i : Nat} {xs : List D} (S : SR K B H σ ρ) (h : listAt i ρ = some xs) :
    ∃ a vs, σ[i]? = some (some (.ref a)) ∧ H a = some (.lst vs) ∧ RpL K B xs vs ∧ ((∃ ws, B a = some (.lst ws)) ∨ ∃ sv : SV, ρ[i]? = some (some sv) ∧ sv.owned = true ∧ σ[i]? = some (some (.ref a))) := by
  unfold listAt at h
  split at h
  · rename_i ys e
    cases h
    obtain ⟨v, h1, a, vs, rfl, h2, h3, h4⟩ := S.slot i _ e
    exact ⟨a, vs, h1, h3, h4, .inr ⟨_, e, rfl, h1⟩⟩
  · rename_i ys e
    cases h
    obtain ⟨v, h1, a, vs, rfl, h2, h3⟩ := S.slot i _ e
    exact ⟨a, vs, h1, S.ex a _ h2, h3, .inl ⟨vs, h2⟩⟩
  · cases h
theorem rows_raw {K : PySem.W.Frag} {B : Hp} : ∀ {xs : List D} {vs : List V}, RpL K B xs vs → xs.all isL = true → ∀ (j : Nat) v, vs[j]? = some v → ∃ b ws, v = .ref b ∧ B b = some (.lst ws) ∧ ws.length < 100000
  | [], vs, h, _, j, v, e => by rw [show vs = [] from h] at e; simp at e
  | d :: ds, _, ⟨w, r, h1, h2, h3⟩, ha, j, v, e => by
    subst h1
    rw [List.all_cons, Bool.and_eq_true] at ha
    cases j with
    | zero =>
      simp at e; subst e
      cases d with
      | lst ys =>
        obtain ⟨b, ws, e1, e2, e3⟩ := h2
        have hl : ys.length < 100000 := of_decide_eq_true ha.1
        exact ⟨b, ws, e1, e2, by rw [e3.length]; exact hl⟩
      | _ => cases ha.1
    | succ j => exact rows_raw h3 ha.2 j v (by simpa using e)
/-- x[k].append(c); x.append([]) -/
def sSpoil1 (i : Nat) (G : Rho → Out) : Rho → Out := fun ρ => match listAt i ρ with
  | some xs => if (xs.all isL && decide (0 < xs.length)) && decide (xs.length < 99999) then G (cleanR i ρ) else .err
  | none => .err
section
variable {X : Cx} {W : WX} {pos pos' pos2 : Pos} {sts : List Stmt} {G : Rho → Out}
theorem fbt_spoil1 {i : Nat} {x : Str} {p1 p2 p3 p4 p5 p6 q1 q2 q3 q4 : Pos} {k0 k1 : Nat} {c1 : Int} (hN : X.N[i]? = some x) (hv : Vis X.env.scope x) (h : FBT X W sts G)
    (hbase : attributeBase (.Subscript (.Name x p1) (.Constant (.int 0) k0 p2) p3) "append" X.env (eval (.Subscript (.Name x p1) (.Constant (.int 0) k0 p2) p3) X.env) = eval (.Subscript (.Name x p1) (.Constant (.int 0) k0 p2) p3) X.env := by rfl)
    (hfew : ((backTo p6 (starEach [.Constant (.int c1) k1 p5] X.env)).all (fun x => !x.1) && (backToKw p6 (keywordEach [] X.env)).all (fun x => x.1.isSome)
      && decide (([.Constant (.int c1) k1 p5] : List Expr).length + ([] : List Keyword).length + (if ([] : List Keyword).isEmpty then 0 else 1) < 30)) = true := by rfl)
    (hline : (p4.endLine == p6.line) = true := by rfl) (hs : starEach [.Constant (.int c1) k1 p5] X.env = (false, eval (.Constant (.int c1) k1 p5) X.env) :: starEach [] X.env := by rfl) (hplain : (backTo p6 (starEach [] X.env)).any (·.1) = false := by rfl)
    (hsw : swapsWith (.Call (.Attribute (.Subscript (.Name x p1) (.Constant (.int 0) k0 p2) p3) "append" p4) [.Constant (.int c1) k1 p5] [] p6) none pos.line X.env = pure false := by rfl)
    (hbase2 : attributeBase (.Name x q1) "append" X.env (eval (.Name x q1) X.env) = eval (.Name x q1) X.env := by rfl)
    (hfew2 : ((backTo q4 (starEach [.List [] q3] X.env)).all (fun x => !x.1) && (backToKw q4 (keywordEach [] X.env)).all (fun x => x.1.isSome)
      && decide (([.List [] q3] : List Expr).length + ([] : List Keyword).length + (if ([] : List Keyword).isEmpty then 0 else 1) < 30)) = true := by rfl)
    (hline2 : (q2.endLine == q4.line) = true := by rfl) (hs2 : starEach [.List [] q3] X.env = (false, eval (.List [] q3) X.env) :: starEach [] X.env := by rfl) (hplain2 : (backTo q4 (starEach [] X.env)).any (·.1) = false := by rfl)
    (hsw2 : swapsWith (.Call (.Attribute (.Name x q1) "append" q2) [.List [] q3] [] q4) none pos'.line X.env = pure false := by rfl)
    (hd : (x == ("__debug__" : Str)) = false := by decide) (hcd : (x == ("__classdict__" : Str)) = false := by decide) :
    FBT X W (.Expr (.Call (.Attribute (.Subscript (.Name x p1) (.Constant (.int 0) k0 p2) p3) "append" p4) [.Constant (.int c1) k1 p5] [] p6) pos :: .Expr (.Call (.Attribute (.Name x q1) "append" q2) [.List [] q3] [] q4) pos' :: sts) (sSpoil1 i G) := by
  obtain ⟨t, p, o⟩ := h.ex
  refine ⟨_, pss_cons (ps_expr (pe_bm PySem.F.plainAttrs_list PySem.F.slot_list_append PySem.F.type_list_append mt_append (pe_ix ix_seq (pe_var hN hv hd hcd) pe_int (by exact fun _ _ => rfl)) (pa_cons pe_int pa_nil hs) hbase hfew hline hs hplain) hsw)
    (pss_cons (ps_expr (pe_bm PySem.F.plainAttrs_list PySem.F.slot_list_append PySem.F.type_list_append mt_append (pe_var hN hv hd hcd) (pa_cons (pe_lst pa_nil) pa_nil hs2) hbase2 hfew2 hline2 hs2 hplain2) hsw2) p), fun B H σ ρ D S post => ?_⟩
  unfold sSpoil1 at post
  split at post
  · rename_i xs e0
    split at post
    · rename_i hc
      rw [Bool.and_eq_true, Bool.and_eq_true, decide_eq_true_eq, decide_eq_true_eq] at hc
      obtain ⟨⟨hal, hpos⟩, hlen⟩ := hc
      obtain ⟨a, vs, hσ, ha, hr, hown⟩ := listAt_raw S e0
      have hvl := hr.length
      obtain ⟨v0, ev0⟩ : ∃ v, vs[0]? = some v := ⟨vs[0]'(by omega), List.getElem?_eq_getElem _⟩
      obtain ⟨b, ws, rfl, hb, hwl⟩ := rows_raw hr hal 0 _ ev0
      have hbH : H b = some (.lst ws) := S.ex b _ hb
      have hat : atI vs 0 = some (V.ref b) := by
        rw [atI_get (by omega) (by show 0 < vs.length; omega)]
        rw [List.getElem?_eq_getElem (by omega)] at ev0
        exact ev0
      obtain ⟨us, hus, hul⟩ : ∃ us, upd H b (.lst (ws ++ [.int c1])) a = some (.lst us) ∧ us.length < 100000 := by
        by_cases hab : a = b
        · subst hab
          rw [ha] at hbH; cases hbH
          exact ⟨_, upd_same, by rw [List.length_append, List.length_singleton]; omega⟩
        · exact ⟨vs, by rw [upd_ne hab]; exact ha, by omega⟩
      refine ⟨.ref a, hσ, .inl ⟨a, vs, 0, .ref b, rfl, rfl, SqL.of ha, hat, .inl ⟨rfl, ws, SqL.of hbH⟩, b, ws, .int c1, rfl, rfl, hbH, line_lt hwl, ?_⟩⟩
      refine ⟨.ref a, hσ, .inl ⟨rfl, us, SqL.of hus⟩, Nat.zero_le _, fun q hq => ?_⟩
      have haq : a ≠ q := fun z => by rw [← z, hus] at hq; cases hq
      refine ⟨a, us, .ref q, rfl, rfl, by rw [upd_ne haq]; exact hus, line_lt hul, ?_⟩
      refine o _ _ _ _ D (S.clean (i := i) (fun c => c = a ∨ c = b) (fun c hc => ?_) fun c u hu nz => ?_) post
      · rcases hc with rfl | rfl
        · exact hown
        · exact .inl ⟨ws, hb⟩
      · have h1 : c ≠ a := fun z => nz (.inl z)
        have h2 : c ≠ b := fun z => nz (.inr z)
        have h3 : c ≠ q := fun z => by rw [← z, upd_ne h2, hu] at hq; cases hq
        rw [upd_ne h1, upd_ne h3, upd_ne h2]
        exact hu
    · exact post.elim
  · exact post.elim
end
section
variable {K : PySem.W.Frag} {B H : Hp} {σ σ' : St} {ρ : Rho} {i : Nat}
theorem SR.forget (S : SR K B H σ ρ) (hl : σ'.length = σ.length) (hs : ∀ j, j ≠ i → σ'[j]? = σ[j]?) : SR K B H σ' (ρ.set i none) := by
  have ne : ∀ {j : Nat} {sv : SV}, (ρ.set i none)[j]? = some (some sv) → j ≠ i ∧ ρ[j]? = some (some sv) := fun {j sv} h => by
    have hj : j ≠ i := by
      rintro rfl
      rw [List.getElem?_set] at h
      simp at h
    exact ⟨hj, by rwa [List.getElem?_set_ne (Ne.symm hj)] at h⟩
  refine ⟨S.ex, by rw [List.length_set, hl]; exact S.len, fun j sv h => ?_, fun j l sv sv' a h1 o1 h2 o2 h3 h4 => ?_⟩
  · obtain ⟨hj, e⟩ := ne h
    obtain ⟨v, g1, g2⟩ := S.slot j sv e
    exact ⟨v, by rw [hs j hj]; exact g1, g2⟩
  · obtain ⟨hj, e1⟩ := ne h1
    obtain ⟨hl, e2⟩ := ne h2
    rw [hs j hj] at h3
    rw [hs l hl] at h4
    exact S.dis j l sv sv' a e1 o1 e2 o2 h3 h4
end
def isInt : D → Bool
  | .int _ => true
  | _ => false
def isLi : D → Bool
  | .lst ys => ys.all isInt && decide (ys.length < 50000)
  | _ => false
theorem ints_raw {K : PySem.W.Frag} {B : Hp} : ∀ {xs : List D} {vs : List V}, RpL K B xs vs → xs.all isInt = true → ∀ (j : Nat) v, vs[j]? = some v → ∃ n : Int, v = .int n
  | [], vs, h, _, j, v, e => by rw [show vs = [] from h] at e; simp at e
  | d :: ds, _, ⟨w, r, h1, h2, h3⟩, ha, j, v, e => by
    subst h1
    rw [List.all_cons, Bool.and_eq_true] at ha
    cases j with
    | zero =>
      simp at e; subst e
      cases d with
      | int n => exact ⟨n, h2⟩
      | _ => cases ha.1
    | succ j => exact ints_raw h3 ha.2 j v (by simpa using e)
theorem rowsi_raw {K : PySem.W.Frag} {B : Hp} : ∀ {xs : List D} {vs : List V}, RpL K B xs vs → xs.all isLi = true → ∀ (j : Nat) v, vs[j]? = some v → ∃ b ws, v = .ref b ∧ B b = some (.lst ws) ∧ ws.length < 50000 ∧ ∀ (l : Nat) u, ws[l]? = some u → ∃ n : Int, u = .int n
  | [], vs, h, _, j, v, e => by rw [show vs = [] from h] at e; simp at e
  | d :: ds, _, ⟨w, r, h1, h2, h3⟩, ha, j, v, e => by
    subst h1
    rw [List.all_cons, Bool.and_eq_true] at ha
    cases j with
    | zero =>
      simp at e; subst e
      cases d with
      | lst ys =>
        obtain ⟨b, ws, e1, e2, e3⟩ := h2
        have h0 : (ys.all isInt && decide (ys.length < 50000)) = true := ha.1
        rw [Bool.and_eq_true, decide_eq_true_eq] at h0
        exact ⟨b, ws, e1, e2, by rw [e3.length]; exact h0.2, ints_raw e3 h0.1⟩
      | _ => cases ha.1
    | succ j => exact rowsi_raw h3 ha.2 j v (by simpa using e)
/-- for y in x: y.append(c); x.append([]) -/
def sSpoil2 (i j : Nat) (G : Rho → Out) : Rho → Out := fun ρ => match listAt i ρ with
  | some xs => if (xs.all isLi && decide (xs.length < 40000)) && decide (j < ρ.length) then G (cleanR i (ρ.set j none)) else .err
  | none => .err
section
variable {X : Cx} {W : WX} {pos pos' pos2 : Pos} {sts : List Stmt} {G : Rho → Out}
theorem fbt_spoil2 {i j : Nat} {x y : Str} {p1 p2 p3 p4 p5 p6 q1 q2 q3 q4 : Pos} {k1 : Nat} {c1 : Int} (hp : PassesOwn (model X.prog X.w) X.A X.env X.xe) (hc : X.calm = true) (hNd : X.N.Nodup) (hN : X.N[i]? = some x) (hv : Vis X.env.scope x) (hNy : X.N[j]? = some y) (hvy : Vis X.env.scope y) (hLy : Loc X.env.scope y) (hij : i ≠ j) (h : FBT X W sts G)
    (hf : X.fn y = true ∨ X.env.scope.names.lookup y = some .local := by first | exact .inl rfl | exact .inr rfl | assumption)
    (hit : ∀ z, foldedSetIterable (.Name x p2) X.env z = pure z := by intro _; rfl)
    (hbase : attributeBase (.Name y p3) "append" X.env (eval (.Name y p3) X.env) = eval (.Name y p3) X.env := by rfl)
    (hfew : ((backTo p6 (starEach [.Constant (.int c1) k1 p5] X.env)).all (fun x => !x.1) && (backToKw p6 (keywordEach [] X.env)).all (fun x => x.1.isSome)
      && decide (([.Constant (.int c1) k1 p5] : List Expr).length + ([] : List Keyword).length + (if ([] : List Keyword).isEmpty then 0 else 1) < 30)) = true := by rfl)
    (hline : (p4.endLine == p6.line) = true := by rfl) (hs : starEach [.Constant (.int c1) k1 p5] X.env = (false, eval (.Constant (.int c1) k1 p5) X.env) :: starEach [] X.env := by rfl) (hplain : (backTo p6 (starEach [] X.env)).any (·.1) = false := by rfl)
    (hsw : swapsWith (.Call (.Attribute (.Name y p3) "append" p4) [.Constant (.int c1) k1 p5] [] p6) none pos2.line X.env = pure false := by rfl)
    (hbase2 : attributeBase (.Name x q1) "append" X.env (eval (.Name x q1) X.env) = eval (.Name x q1) X.env := by rfl)
    (hfew2 : ((backTo q4 (starEach [.List [] q3] X.env)).all (fun x => !x.1) && (backToKw q4 (keywordEach [] X.env)).all (fun x => x.1.isSome)
      && decide (([.List [] q3] : List Expr).length + ([] : List Keyword).length + (if ([] : List Keyword).isEmpty then 0 else 1) < 30)) = true := by rfl)
    (hline2 : (q2.endLine == q4.line) = true := by rfl) (hs2 : starEach [.List [] q3] X.env = (false, eval (.List [] q3) X.env) :: starEach [] X.env := by rfl) (hplain2 : (backTo q4 (starEach [] X.env)).any (·.1) = false := by rfl)
    (hsw2 : swapsWith (.Call (.Attribute (.Name x q1) "append" q2) [.List [] q3] [] q4) none pos'.line X.env = pure false := by rfl)
    (hd : (x == ("__debug__" : Str)) = false := by decide) (hcd : (x == ("__classdict__" : Str)) = false := by decide) (hdy : (y == ("__debug__" : Str)) = false := by decide) (hcdy : (y == ("__classdict__" : Str)) = false := by decide) :
    FBT X W (.For (.Name y p1) (.Name x p2) [.Expr (.Call (.Attribute (.Name y p3) "append" p4) [.Constant (.int c1) k1 p5] [] p6) pos2] [] pos :: .Expr (.Call (.Attribute (.Name x q1) "append" q2) [.List [] q3] [] q4) pos' :: sts) (sSpoil2 i j G) := by
  obtain ⟨t, p, o⟩ := h.ex
  refine ⟨_, pss_cons (ps_for hp hc (pi_list (pe_var hN hv hd hcd)) (pg_name hNd hNy hLy hf) (pss_one (ps_expr (pe_bm PySem.F.plainAttrs_list PySem.F.slot_list_append PySem.F.type_list_append mt_append (pe_var hNy hvy hdy hcdy) (pa_cons pe_int pa_nil hs) hbase hfew hline hs hplain) hsw)) hit)
    (pss_cons (ps_expr (pe_bm PySem.F.plainAttrs_list PySem.F.slot_list_append PySem.F.type_list_append mt_append (pe_var hN hv hd hcd) (pa_cons (pe_lst pa_nil) pa_nil hs2) hbase2 hfew2 hline2 hs2 hplain2) hsw2) p), fun B H σ ρ D S post => ?_⟩
  unfold sSpoil2 at post
  split at post
  · rename_i xs e0
    split at post
    · rename_i hc'
      rw [Bool.and_eq_true, Bool.and_eq_true, decide_eq_true_eq, decide_eq_true_eq] at hc'
      obtain ⟨⟨hal, hlen⟩, hjr⟩ := hc'
      obtain ⟨a, vs, hσ, ha, hr, hown⟩ := listAt_raw S e0
      have hvl := hr.length
      have rw0 := rowsi_raw hr hal
      have hab : ∀ (l : Nat) b, vs[l]? = some (.ref b) → b ≠ a := fun l b e z => by
        obtain ⟨b', ws, e1, e2, _, e4⟩ := rw0 l _ e
        cases e1
        have hbH : H b = some (.lst ws) := S.ex b _ e2
        rw [z, ha] at hbH
        cases hbH
        obtain ⟨n, hn⟩ := e4 l _ e
        cases hn
      let Z : Addr → Prop := fun c => ∃ l : Nat, vs[l]? = some (V.ref c)
      have hZB : ∀ c, Z c → ∃ ws, B c = some (.lst ws) ∧ ws.length < 50000 := fun c ⟨l, hl⟩ => by
        obtain ⟨b', ws, e1, e2, e3, _⟩ := rw0 l _ hl
        cases e1
        exact ⟨ws, e2, e3⟩
      let Pv : Nat → St → Hp → Prop := fun n σ' H' => (σ'.length = σ.length ∧ ∀ l, l ≠ j → σ'[l]? = σ[l]?) ∧ H' a = some (.lst vs) ∧ (∀ c u, H c = some u → ¬ Z c → H' c = some u) ∧ ∀ c, Z c → ∃ ys, H' c = some (.lst ys) ∧ ys.length < 50000 + n
      refine ⟨.ref a, hσ, a, rfl, ⟨vs, SqL.of ha⟩, ?_⟩
      refine for_list (a := a) (xs := vs) Pv ⟨⟨rfl, fun _ _ => rfl⟩, ha, fun _ _ h _ => h, fun c hc => ?_⟩ (fun n σ' H' _ h => SqL.of h.2.1) (fun n v σ' H' hn ⟨⟨h1, h2⟩, h3, h4, h5⟩ => ?_) (fun σ' H' ⟨⟨h1, h2⟩, h3, h4, h5⟩ => ?_)
      · obtain ⟨ws, w1, w2⟩ := hZB c hc
        exact ⟨ws, S.ex c _ w1, w2⟩
      · obtain ⟨b, ws, rfl, _, _, _⟩ := rw0 n v hn
        have hnl : n < vs.length := (List.getElem?_eq_some_iff.mp hn).1
        obtain ⟨ys, y1, y2⟩ := h5 b ⟨n, hn⟩
        have hjl : j < σ'.length := by
          have e1 := S.len
          omega
        refine ⟨.ref b, List.getElem?_set_self hjl, .inl ⟨rfl, ys, SqL.of y1⟩, b, ys, .int c1, rfl, rfl, y1, line_lt (by omega), ?_⟩
        refine ⟨⟨by rw [List.length_set]; exact h1, fun l hl => by rw [List.getElem?_set_ne (Ne.symm hl)]; exact h2 l hl⟩, by rw [upd_ne (Ne.symm (hab n b hn))]; exact h3, fun c u hu nz => ?_, fun c hc => ?_⟩
        · have hcb : c ≠ b := fun z => nz ⟨n, by rw [z]; exact hn⟩
          rw [upd_ne hcb]; exact h4 c u hu nz
        · by_cases hcb : c = b
          · subst hcb
            exact ⟨_, upd_same, by rw [List.length_append, List.length_singleton]; omega⟩
          · obtain ⟨zs, z1, z2⟩ := h5 c hc
            exact ⟨zs, by rw [upd_ne hcb]; exact z1, by omega⟩
      · refine ⟨.ref a, by rw [h2 i hij]; exact hσ, .inl ⟨rfl, vs, SqL.of h3⟩, Nat.zero_le _, fun q hq => ?_⟩
        have haq : a ≠ q := fun z => by rw [← z, h3] at hq; cases hq
        refine ⟨a, vs, .ref q, rfl, rfl, by rw [upd_ne haq]; exact h3, line_lt (by omega), ?_⟩
        have hown' : (∃ ws, B a = some (.lst ws)) ∨ ∃ sv : SV, (ρ.set j none)[i]? = some (some sv) ∧ sv.owned = true ∧ σ'[i]? = some (some (.ref a)) := by
          rcases hown with q | ⟨sv, g1, g2, g3⟩
          · exact .inl q
          · exact .inr ⟨sv, by rw [List.getElem?_set_ne (Ne.symm hij)]; exact g1, g2, by rw [h2 i hij]; exact g3⟩
        refine o _ _ _ _ D ((S.forget (i := j) h1 h2).clean (i := i) (fun c => c = a ∨ Z c) (fun c hc => ?_) fun c u hu nz => ?_) post
        · rcases hc with rfl | hc
          · exact hown'
          · obtain ⟨ws, w1, _⟩ := hZB c hc
            exact .inl ⟨ws, w1⟩
        · have g1 : c ≠ a := fun z => nz (.inl z)
          have g2 := h4 c u hu fun z => nz (.inr z)
          have g3 : c ≠ q := fun z => by rw [← z, g2] at hq; cases hq
          rw [upd_ne g1, upd_ne g3]
          exact g2
    · exact post.elim
  · exact post.elim
end
/-! ## The outermost def -/
def runT (n k : Nat) (G : Rho → Out) (ds : List D) : Ret := if ds.length = k then match G (startR n ds) with
    | .rt (.d d) _ => .ok (.p d)
    | _ => .err
  else .err
theorem runT_wpQ {n k : Nat} {G : Rho → Out} {ds : List D} {P : SV → Prop} (hl : ds.length = k) (h : ∀ Q : Out → Prop, Q = (fun o => match o with
    | .rt (.d d) _ => P (.p d)
    | _ => False) → Endg Q (G (startR n ds))) : ∃ sv, runT n k G ds = .ok sv ∧ P sv := by
  have h1 := h _ rfl
  unfold runT
  rw [if_pos hl]
  cases e : G (startR n ds) with
  | rt r ρ =>
    rw [e] at h1
    cases r with
    | d d => exact ⟨_, rfl, h1⟩
    | own _ => exact h1.elim
    | slot _ => exact h1.elim
  | err => rw [e] at h1; exact h1.elim
  | nx _ => rw [e] at h1; exact h1.elim
  | bk _ => rw [e] at h1; exact h1.elim
  | ct _ => rw [e] at h1; exact h1.elim
  | exc _ _ => rw [e] at h1; exact h1.elim
section
variable {P : Program} {w : World} {K : PySem.W.Frag} {mg : Str → Option Value} {base : Heap}
theorem fn_okT {x y qual : Str} {st : Stmt} {f : Addr} {fd : FuncData} {N : List Str} {k : Nat} {G : Rho → Out} (F : Fun K x qual st f fd) (S : FnScope N [y] (defScope st))
    (hbody : ∀ (cdv : Value) (A : Around) (outer : List PySem.Env) (s : Shared) (H : Hp) (E : XK), Room k (A.deeper (PyProof.Rows.envOfC qual (defScope st) s.heap.objs.size f cdv)) →
      FBT (cxOf CX0 P w K mg base N qual (defScope st) f cdv A outer s H E).nox W0 (defBody st) G)
    (h : ∀ ns : List Int, ns.length ≤ 63 → runT N.length 1 G [.frz (ns.map .int)] = .ok (.p (.bl true))) :
    FnOk P w K mg base CX0 (k + 1) f fd [y] (spLaw K) := by
  refine F.ok S (fun vs H Q E h' => ?_) (fun cdv A outer s H vs Q E hr h' => ?_)
  · obtain ⟨a, ns, rfl, _⟩ := h'
    rfl
  · obtain ⟨a, ns, rfl, hS, hl, kq⟩ := h'
    obtain ⟨t, p, o⟩ := (hbody cdv A outer s H E hr).ex
    refine ⟨t, p, ?_⟩
    have post := h ns hl
    unfold runT at post
    rw [if_pos (by rfl)] at post
    refine o H H (L2.start N [.ref a]) (startR N.length [D.frz (ns.map .int)]) _ (start_sr (Ex.refl H) (.cons ⟨a, _, rfl, hS, ints_rp ns⟩ .nil)) ?_
    cases eg : G (startR N.length [D.frz (ns.map .int)]) with
    | rt r ρ' =>
      rw [eg] at post
      cases r with
      | d d =>
        have hd : d = .bl true := by
          have := Ret.ok.inj post
          exact SV.p.inj this
        subst hd
        intro B' H' v hv
        have hv' : v = .bl true := hv
        subst hv'
        exact kq H'
      | own _ => cases post
      | slot _ => cases post
    | err => rw [eg] at post; cases post
    | nx _ => rw [eg] at post; cases post
    | bk _ => rw [eg] at post; cases post
    | ct _ => rw [eg] at post; cases post
    | exc _ _ => rw [eg] at post; cases post
end
end FP
/-! FPj: a call whose result is a list of lists of ints, none of them empty; lists that are passed and are empty or hold a tuple stay the caller's own -/
namespace FP
open PySem L2
def isTup : D → Bool
  | .tup _ => true
  | _ => false
def isNi : D → Bool
  | .lst ys => ys.all isInt && !ys.isEmpty
  | _ => false
def conSlots (ρ : Rho) : List RV → Bool
  | [] => true
  | .slot i :: rs => (match ρ[i]? with | some (some (.l xs)) => xs.isEmpty || xs.any isTup | some (some (.p _)) => true | _ => false) && conSlots ρ rs
  | .d _ :: rs => conSlots ρ rs
  | .own _ :: _ => false
def SV.nI : SV → Bool
  | .l rows => rows.all isNi
  | _ => false
def ofRetC (x : Ret) (rs : List RV) (ρ : Rho) : Rs RV := match x with
  | .ok sv => if sv.nI && conSlots ρ rs then .ok (rvOf sv) ρ else .err
  | _ => .err
def eCallC (fn : List D → Ret) (as : Rho → Rs (List RV)) (dds : List D) : Rho → Rs RV := fun ρ => (as ρ).bind fun rs ρ1 => ofRetC (fn (rs.map (view ρ1) ++ dds)) rs ρ1
section
variable {K : PySem.W.Frag} {B H B' H' : Hp} {σ : St} {ρ : Rho}
theorem con_slot : ∀ {rs : List RV} {i : Nat} {sv : SV}, conSlots ρ rs = true → RV.slot i ∈ rs → ρ[i]? = some (some sv) → sv.owned = true → ∃ xs, sv = .l xs ∧ (xs = [] ∨ xs.any isTup = true)
  | r :: rs, i, sv, h, hm, e, ow => by
    rcases List.mem_cons.mp hm with rfl | hm
    · have h' : (match ρ[i]? with | some (some (.l xs)) => xs.isEmpty || xs.any isTup | some (some (.p _)) => true | _ => false) = true := by
        unfold conSlots at h
        exact (Bool.and_eq_true_iff.mp h).1
      rw [e] at h'
      cases sv with
      | l xs =>
        refine ⟨xs, rfl, ?_⟩
        have h2 : (xs.isEmpty || xs.any isTup) = true := h'
        rcases Bool.or_eq_true_iff.mp h2 with q | q
        · exact .inl (List.isEmpty_iff.mp q)
        · exact .inr q
      | p d => cases ow
      | _ => cases h'
    · have h' : conSlots ρ rs = true := by
        cases r with
        | slot j => unfold conSlots at h; exact (Bool.and_eq_true_iff.mp h).2
        | d _ => exact h
        | own _ => cases h
      exact con_slot h' hm e ow
theorem tup_raw {K : PySem.W.Frag} {B : Hp} : ∀ {xs : List D} {vs : List V}, RpL K B xs vs → xs.any isTup = true → ∃ (j : Nat) (t : Addr), vs[j]? = some (V.ref t)
  | [], vs, h, e => by cases e
  | d :: ds, _, ⟨w, r, h1, h2, h3⟩, e => by
    subst h1
    rw [List.any_cons, Bool.or_eq_true] at e
    rcases e with e | e
    · cases d with
      | tup ys =>
        obtain ⟨a, us, rfl, _⟩ := h2
        exact ⟨0, a, rfl⟩
      | _ => cases e
    · obtain ⟨j, t, q⟩ := tup_raw h3 e
      exact ⟨j + 1, t, by simpa using q⟩
theorem rp_ints {K : PySem.W.Frag} {B B' : Hp} : ∀ {xs : List D} {vs : List V}, xs.all isInt = true → RpL K B xs vs → RpL K B' xs vs
  | [], vs, _, h => h
  | d :: ds, _, ha, ⟨w, r, h1, h2, h3⟩ => by
    rw [List.all_cons, Bool.and_eq_true] at ha
    refine ⟨w, r, h1, ?_, rp_ints ha.2 h3⟩
    cases d with
    | int n => exact h2
    | _ => cases ha.1
theorem rowsNi_less {A : Addr → Prop} (ex : Ex B H) (c : ∀ a, A a → ∃ us, H a = some (.lst us) ∧ (us = [] ∨ ∃ (j : Nat) (t : Addr), us[j]? = some (V.ref t))) : ∀ {rows : List D} {vs : List V}, rows.all isNi = true → RpL K B rows vs → RpL K (less B A) rows vs
  | [], _, _, h => h
  | d :: ds, _, ha, ⟨v, r, h1, h2, h3⟩ => by
    rw [List.all_cons, Bool.and_eq_true] at ha
    refine ⟨v, r, h1, ?_, rowsNi_less ex c ha.2 h3⟩
    cases d with
    | lst ys =>
      have h0 : (ys.all isInt && !ys.isEmpty) = true := ha.1
      rw [Bool.and_eq_true] at h0
      obtain ⟨b, ws, e1, e2, e3⟩ := h2
      have nb : ¬ A b := fun z => by
        obtain ⟨us, q1, q2⟩ := c b z
        rw [show H b = _ from ex b _ e2] at q1
        cases q1
        rcases q2 with rfl | ⟨j, t, q⟩
        · have := e3.length
          cases ys with
          | nil => cases h0.2
          | cons _ _ => simp at this
        · obtain ⟨n, hn⟩ := ints_raw e3 h0.1 j _ q
          cases hn
      exact ⟨b, ws, e1, by rw [less_out nb]; exact e2, rp_ints h0.1 e3⟩
    | _ => cases ha.1
theorem call_postC {W : WX} {Bs Hs : Hp} {ρs : Rho} {Q : VK} {rs : List RV} {vs dvs : List V} {dds : List D} {fn : List D → Ret} {E : XK} (S : SR K B H σ ρ) (st : Step Bs Hs σ ρs B H σ ρ) (fl : Fills ρs ρ) (hvs : RVs K Hs B H σ ρ rs vs) (hd : ∀ B, RpL K B dds dvs)
    (post : Post K W Bs Hs σ ρs (fun B' H' ρ' r => ∀ v, RVr K Hs B' H' σ ρ' r v → Q v H') (ofRetC (fn (rs.map (view ρ) ++ dds)) rs ρ)) : spF K fn (vs ++ dvs) H Q E := by
  obtain ⟨B2, x2, S2, st2, f2, rp, new2, own2, gh2, nw2⟩ := takes S st hvs.1 hvs.2
  refine ⟨B2, _, S2.ex, rp.append (hd B2), ?_⟩
  cases ef : fn (rs.map (view ρ) ++ dds) with
  | err => rw [ef] at post; exact post.elim
  | exc x => rw [ef] at post; exact post.elim
  | ok sv =>
    rw [ef] at post
    intro B' H' v kp hsv hown
    unfold ofRetC at post
    dsimp only at post
    split at post
    case isFalse => exact post.elim
    case isTrue hc =>
      have hsl := (Bool.and_eq_true_iff.mp hc).2
      have hnl := (Bool.and_eq_true_iff.mp hc).1
      let A : Addr → Prop := fun a => OwnAt σ ρ a ∧ ¬ OwnAt σ (frzs rs ρ) a
      have lent : ∀ a, A a → ∃ us, H a = some (.lst us) ∧ (us = [] ∨ ∃ (j : Nat) (t : Addr), us[j]? = some (V.ref t)) := by
        rintro a ⟨⟨i, sv', h1, h2, h3⟩, hn⟩
        have hm : RV.slot i ∈ rs := by
          refine Classical.byContradiction fun hm => hn ⟨i, sv', ?_, h2, h3⟩
          rw [frzs_get hm]; exact h1
        obtain ⟨xs, rfl, hx⟩ := con_slot hsl hm h1 h2
        obtain ⟨v', e1, a', us, e2, e3, e4, e5⟩ := S.slot i _ h1
        rw [h3] at e1; cases e1; cases e2
        refine ⟨us, e4, ?_⟩
        rcases hx with rfl | hx
        · exact .inl e5
        · exact .inr (tup_raw e5 hx)
      have stay : ∀ a, OwnAt σ ρ a → ∃ o, H a = some o ∧ H' a = some o ∧ less B' A a = none := by
        rintro a ⟨i, sv', h1, h2, h3⟩
        obtain ⟨v', e1, e2⟩ := S.slot i sv' h1
        rw [h3] at e1; cases e1
        obtain ⟨a', u, c1, c2, c3⟩ := e2.cell h2
        cases c1
        by_cases ha : OwnAt σ (frzs rs ρ) a
        · obtain ⟨j, sv2, g1, g2, g3⟩ := ha
          obtain ⟨v2, g4, g5⟩ := S2.slot j sv2 g1
          rw [g3] at g4; cases g4
          obtain ⟨a2, u2, k1, k2, k3⟩ := g5.cell g2
          cases k1
          rw [k2] at c2; cases c2
          obtain ⟨m1, m2⟩ := kp.fr a _ k2 k3
          refine ⟨_, k2, m1, ?_⟩
          cases e : less B' A a with
          | none => rfl
          | some w => rw [less_of e] at m2; cases m2
        · refine ⟨u, c2, ?_, less_in ⟨⟨i, sv', h1, h2, h3⟩, ha⟩⟩
          cases eB : B2 a with
          | none => exact (kp.fr a u c2 eB).1
          | some u' =>
            have z := nw2 a u' c3 eB
            rw [c2] at z; cases z
            have n := e2.ng h2 c2
            exact (kp.ex a _ ((kp.bb a _ eB).get n)).get n
      have cells : ∀ a, A a → ∃ us, H' a = some (.lst us) ∧ (us = [] ∨ ∃ (j : Nat) (t : Addr), us[j]? = some (V.ref t)) := fun a ha => by
        obtain ⟨o, q1, q2, _⟩ := stay a ha.1
        obtain ⟨xs, q3, q4⟩ := lent a ha
        rw [q1] at q3; cases q3
        exact ⟨xs, q2, q4⟩
      have bl : Ex B (less B' A) := fun a o h => by
        have ha : ¬ A a := fun z => by
          obtain ⟨i, sv', h1, h2, h3⟩ := z.1
          obtain ⟨v', e1, e2⟩ := S.slot i sv' h1
          rw [h3] at e1; cases e1
          obtain ⟨a', u, c1, c2, c3⟩ := e2.cell h2
          cases c1
          rw [h] at c3; cases c3
        rw [less_out ha]
        exact (x2.trans kp.bb) a o h
      have ghl : ∀ c r, B c = some (.own r) → H r ≠ none → less B' A c = some (.own r) ∧ H' c = H c := fun c r h1 h2 => by
        have hc : ¬ A c := fun z => by
          obtain ⟨i, sv', g1, g2, g3⟩ := z.1
          obtain ⟨v', e1, e2⟩ := S.slot i sv' g1
          rw [g3] at e1; cases e1
          obtain ⟨a', u, c1, c2, c3⟩ := e2.cell g2
          cases c1
          rw [h1] at c3; cases c3
        obtain ⟨m1, m2⟩ := kp.gh c r (gh2 c r h1) h2
        exact ⟨by rw [less_out hc]; exact m1, m2⟩
      have S3 : SR K (less B' A) H' σ ρ := by
        refine ⟨fun a o h => kp.ex a o (less_of h), S.len, fun i sv' h => ?_, S.dis⟩
        obtain ⟨v', e1, e2⟩ := S.slot i sv' h
        refine ⟨v', e1, e2.later bl (fun ow a o hv h1 h2 => ?_) fun _ a _ c h1 h2 => ghl c a h1 h2⟩
        obtain ⟨o', q1, q2, q3⟩ := stay a ⟨i, sv', h, ow, by rw [e1, hv]⟩
        rw [h1] at q1; cases q1
        exact ⟨q2, q3⟩
      have st3 : Step Bs Hs σ ρs (less B' A) H' σ ρ := by
        refine ⟨st.bb.trans bl, fun a o h1 h2 h3 => ?_, fun a h => st.dom a (kp.dom a h), fun c r h1 h2 h3 => ?_⟩
        · obtain ⟨g1, g2, g3⟩ := st.fr a o h1 h2 h3
          obtain ⟨k1, k2, k3⟩ := st2.fr a o h1 h2 h3
          obtain ⟨m1, m2⟩ := kp.fr a o k1 k2
          refine ⟨m1, ?_, g3⟩
          cases e : less B' A a with
          | none => rfl
          | some w => rw [less_of e] at m2; cases m2
        · obtain ⟨g1, g2, g3⟩ := st.gh c r h1 h2 h3
          obtain ⟨m1, m2⟩ := ghl c r g1 (fun z => h2 (st.dom r z))
          exact ⟨m1, m2.trans g2, g3⟩
      cases sv with
      | l rows =>
        obtain ⟨a, us, e1, e2, e3, e4⟩ := hsv
        obtain ⟨nt, a', h1, h2⟩ := hown rfl
        refine post (less B' A) H' S3 st3 fl v ⟨rfl, ⟨a, us, e1, ?_, e3, rowsNi_less kp.ex cells hnl e4⟩, rfl, a', h1, st.dom a' h2, S.notOwn h2⟩
        cases e : less B' A a with
        | none => rfl
        | some w => rw [less_of e] at e2; cases e2
      | _ => cases hnl
end
section
variable {X : Cx} {W : WX} {p pos : Pos} {x : Str} {e : Expr} {es : List Expr} {As : Rho → Rs (List RV)} {k : Nat} {f : Addr} {fd : FuncData} {ps : List Str} {fn : List D → Ret} {dds : List D} {dvs : List V} {ds : List Value}
theorem fe_callC (Fn : FnOk X.prog X.w X.K X.mg X.base CX0 k f fd ps (spF X.K fn)) (hr : Room k X.A) (hg : Gl X x) (hm : X.mg x = some (.ref f)) (hk : PySem.W.keepIn X.K (.ref f) = true) (hb : Binds X.K fd ps ds) (hd : Vals dvs ds) (hdd : ∀ B, RpL X.K B dds dvs)
    (ha : FA X W (e :: es) As) (hdb : (x == ("__debug__" : Str)) = false := by decide) (he : starEach (e :: es) X.env = (false, eval e X.env) :: starEach es X.env := by rfl) (hpl : (backTo pos (starEach es X.env)).any (·.1) = false := by rfl) :
    FE X W (.Call (.Name x p) (e :: es) [] pos) (eCallC fn As dds) := by
  obtain ⟨t, pa, oa⟩ := ha.ex
  refine ⟨_, pe_call Fn hr hg hm hk hb hd pass0 pa hdb he hpl, fun B H σ ρ Q S post => ?_⟩
  exact oa B H σ ρ _ S (post.bind0 fun rs ρ1 B1 H1 S1 st1 f1 post1 vs hvs => call_postC S1 st1 f1 hvs hdd post1)
end
theorem eCallC_ev {fn : List D → Ret} {as : Rho → Rs (List RV)} {dds : List D} {ρ : Rho} : eCallC fn as dds ρ = (as ρ).bind fun rs ρ1 => ofRetC (fn (rs.map (view ρ1) ++ dds)) rs ρ1 := of_rfl rfl
theorem ofRetC_ok {rs : List RV} {ρ : Rho} {rows : List D} (h1 : rows.all isNi = true) (h2 : conSlots ρ rs = true) : ofRetC (.ok (.l rows)) rs ρ = .ok (.own (.l rows)) ρ := by
  have e : (SV.l rows).nI = true := h1
  show (if ((SV.l rows).nI && conSlots ρ rs) = true then Rs.ok (rvOf (.l rows)) ρ else .err) = _
  rw [e, h2]
  rfl
end FP
/-! FPk: x < y for alike data. -/
namespace FP
open PySem L2 PySem.W PyProof.Rows
def oLtD (x y : D) : Option D := if geOk x y = true then some (.bl (dataLt (toPy x) (toPy y))) else none
section
variable {X : Cx}
def rLtD (K : PySem.W.Frag) : R2 := fun x y H Q => ∃ d e, Dp K H x d ∧ Dp K H y e ∧ alike d e = true ∧ d ≠ .none ∧ d.depth ≤ 60 ∧ Q (.bl (dataLt d e)) H
theorem op_ltD (hu : X.A.units + 64 < cLine) : OpR X (compareOp .Lt) (rLtD X.K) := by
  intro pins s σ H x y v u Q I rx ry h
  obtain ⟨d, e, hd, he, al, hn, hdp, q⟩ := h
  obtain ⟨as, r1⟩ := Dp.reads I d x v hd rx
  obtain ⟨bs, r2⟩ := Dp.reads I e y u he ry
  exact lt_data r1 r2 al hn (by omega) ⟨.bl _, H, I, rfl, q⟩
theorem o2_ltD (hu : X.A.units + 64 < cLine) : Op2 X (compareOp .Lt) oLtD := by
  refine ⟨_, op_ltD hu, fun H x y dx dy d Q hx hy e k => ?_⟩
  unfold oLtD at e
  split at e
  · rename_i h
    cases e
    unfold geOk at h
    simp only [Bool.and_eq_true, decide_eq_true_eq] at h
    obtain ⟨⟨⟨⟨h1, h2⟩, h3⟩, h4⟩, h5⟩ := h
    refine ⟨_, _, dp_of hx h1, dp_of hy h2, h3, ?_, h4, k _ fun _ => rfl⟩
    cases dx with
    | tup xs => exact fun z => by cases z
    | lst xs => exact fun z => by cases z
    | _ => cases h5
  · cases e
end
end FP
namespace Cl
open PySem L2 FP
def top (i : Nat) : Stmt := PySem.Challenge.pw_neverlate_k26_circuits_of_walks.main.body.getD i (.Pass ⟨0, 0, 0, 0⟩)
def s_u_law_number : Stmt := top 29
def G_u_law_number : Rho → Out := (sSeq (sFor (iRng1F (eB (bFlat fLen) (eCons (eVar 0) eNil))) (gN 2) (sIf (tBin oEq (eIx (eIx (eVar 0) (eVar 2)) (eC (.int 0))) (eVar 1)) (sRet (eVar 2)) sNil)) (sRet (eC (.int 0))))
def fn_u_law_number : List D → Ret := run0 3 2 (G_u_law_number)
def s_u_law_turned : Stmt := top 31
def G_u_law_turned : Rho → Out := (sSeq (sSet 3 (eLc (iSeq (eVar 2)) (gN 5) tYesF (eCall fn_u_law_number (eCons (eVar 0) (eCons (eIx (eIx (eVar 1) (eVar 5)) (eC (.int 0))) eNil)) []) [5])) (sSeq (sSet 4 (eIndex (eVar 3) (eB (bFlat fMin) (eCons (eVar 3) eNil)))) (sRet (eAdd (eSl (eVar 2) (oSome (eVar 4)) oNone) (eSl (eVar 2) oNone (oSome (eVar 4)))))))
def fn_u_law_turned : List D → Ret := run0 6 3 (G_u_law_turned)
def s_u_law_is_integer : Stmt := top 24
def G_u_law_is_integer : Rho → Out := (sRet (eAndV (eIsi "int" (eVar 0)) (eNotV (eIsi "bool" (eVar 0)))))
def fn_u_law_is_integer : List D → Ret := run0 1 1 (G_u_law_is_integer)
def s_u_law_is_circuit : Stmt := top 32
def G_u_law_is_circuit : Rho → Out := (sSeq (sIf (tOrF (tNotF (tTru (eIsi "list" (eVar 2)))) (tBin oEq (eB (bFlat fLen) (eCons (eVar 2) eNil)) (eC (.int 0)))) (sRet (eC (.bl false))) sNil) (sSeq (sIf (tNotF (tTru (eB (bFlat fAll) (eCons (eLc (iSeq (eVar 2)) (gN 5) tYesF (eAndV (eCall fn_u_law_is_integer (eCons (eVar 5) eNil) []) (eChn (tChn oLe oLt (eC (.int 0)) (eVar 5) (eB (bFlat fLen) (eCons (eVar 1) eNil))))) [5]) eNil)))) (sRet (eC (.bl false))) sNil) (sSeq (sSet 3 (eLc (iSeq (eVar 2)) (gN 5) tYesF (eCall fn_u_law_number (eCons (eVar 0) (eCons (eIx (eIx (eVar 1) (eVar 5)) (eC (.int 0))) eNil)) []) [5])) (sSeq (sFor (iRng1F (eB (bFlat fLen) (eCons (eVar 2) eNil))) (gN 4) (sSeq (sIf (tBin oNe (eCall fn_u_law_number (eCons (eVar 0) (eCons (eIx (eIx (eVar 1) (eIx (eVar 2) (eVar 4))) (eC (.int 1))) eNil)) []) (eIx (eVar 3) (eBin oMod (eB (bFlat fInt) (eCons (eAdd (eVar 4) (eC (.int 1))) eNil)) (eB (bFlat fLen) (eCons (eVar 2) eNil))))) (sRet (eC (.bl false))) sNil) (sIf (tOrF (tBin oIn (eIx (eVar 3) (eVar 4)) (eSl (eVar 3) oNone (oSome (eVar 4)))) (tBin oLt (eIx (eVar 3) (eVar 4)) (eIx (eVar 3) (eC (.int 0))))) (sRet (eC (.bl false))) sNil))) (sRet (eC (.bl true)))))))
def fn_u_law_is_circuit : List D → Ret := run0 6 3 (G_u_law_is_circuit)
def s_are_ways : Stmt := top 18
def G_are_ways : Rho → Out := (sSeq (sIf (tBin oGt (eB (bFlat fLen) (eCons (eVar 0) eNil)) (eC (.int 16))) (sRet (eC (.bl false))) sNil) (sSeq (sFor (iSeq (eVar 0)) (gT 3 (gsCons (gN 2) (gsCons (gN 3) (gsCons (gN 4) gsNil)))) (sSeq (sIf (tOrF (tBin oNotIn (eVar 2) (eVar 1)) (tBin oNotIn (eVar 3) (eVar 1))) (sRet (eC (.bl false))) sNil) (sIf (tNotF (tChn oLe oLe (eC (.int 1)) (eVar 4) (eC (.int 1000)))) (sRet (eC (.bl false))) sNil))) (sRet (eC (.bl true)))))
def fn_are_ways : List D → Ret := run0 5 2 (G_are_ways)
def s_is_name : Stmt := top 16
def G_is_name : Rho → Out := (sSeq (sIf (tNotF (tChn oLe oLe (eC (.int 1)) (eB (bFlat fLen) (eCons (eVar 0) eNil)) (eC (.int 12)))) (sRet (eC (.bl false))) sNil) (sRet (eB (bFlat fAll) (eCons (eLc (iAny (eVar 0)) (gN 1) tYesF (eBin oIn (eVar 1) (eC (.str "abcdefghijklmnopqrstuvwxyz0123456789"))) [1]) eNil))))
def fn_is_name : List D → Ret := run0 2 1 (G_is_name)
def s_are_kinds : Stmt := top 17
def G_are_kinds : Rho → Out := (sSeq (sIf (tNotF (tChn oLe oLe (eC (.int 1)) (eB (bFlat fLen) (eCons (eVar 0) eNil)) (eC (.int 8)))) (sRet (eC (.bl false))) sNil) (sSeq (sSet 1 (eLst eNil)) (sSeq (sFor (iSeq (eVar 0)) (gT 3 (gsCons (gN 2) (gsCons (gN 3) (gsCons (gN 4) gsNil)))) (sSeq (sIf (tOrF (tNotF (tTru (eCall fn_is_name (eCons (eVar 2) eNil) []))) (tBin oIn (eVar 2) (eVar 1))) (sRet (eC (.bl false))) sNil) (sSeq (sIf (tOrF (tNotF (tChn oLe oLe (eC (.int 1)) (eVar 3) (eC (.int 1000)))) (tNotF (tChn oLe oLe (eC (.int 1)) (eVar 4) (eC (.int 1000))))) (sRet (eC (.bl false))) sNil) (sApp 1 (eVar 2))))) (sRet (eC (.bl true))))))
def fn_are_kinds : List D → Ret := run0 5 1 (G_are_kinds)
def s_Task___init__ : Stmt := inClass (top 19) 0
def G_Task___init__ (a_Task : Addr) : Rho → Out := (sSeq (sIf (tOrF (tNotF (tTru (eCall fn_is_name (eCons (eVar 1) eNil) []))) (tNotF (tTru (eCall fn_are_kinds (eCons (eVar 2) eNil) [])))) sErr sNil) (sSeq (sIf (tNotF (tTru (eCall fn_are_ways (eCons (eVar 3) (eCons (eLc (iSeq (eVar 2)) (gN 4) tYesF (eIx (eVar 4) (eC (.int 0))) [4]) eNil)) []))) sErr sNil) (sSeq (sFld a_Task 0 "name" (eVar 1)) (sSeq (sFld a_Task 0 "kinds" (eB bTuple (eCons (eLc (iSeq (eVar 2)) (gN 4) tYesF (eTup (eCons (eIx (eVar 4) (eC (.int 0))) (eCons (eIx (eVar 4) (eC (.int 1))) (eCons (eIx (eVar 4) (eC (.int 2))) eNil)))) [4]) eNil))) (sFld a_Task 0 "ways" (eB bTuple (eCons (eLc (iSeq (eVar 3)) (gN 5) tYesF (eTup (eCons (eIx (eVar 5) (eC (.int 0))) (eCons (eIx (eVar 5) (eC (.int 1))) (eCons (eIx (eVar 5) (eC (.int 2))) eNil)))) [5]) eNil)))))))
def fn_Task___init__ (a_Task : Addr) : Addr → List D → Option Fs := runI 6 3 a_Task (G_Task___init__ a_Task)
def s_Task_kind_number : Stmt := inClass (top 19) 3
def G_Task_kind_number (a_Task : Addr) : Rho → Out := (sSeq (sFor (iEnumTF (eFld a_Task "kinds" (eVar 0))) (gT 2 (gsCons (gN 2) (gsCons (gN 3) gsNil))) (sIf (tBin oEq (eIx (eVar 3) (eC (.int 0))) (eVar 1)) (sRet (eVar 2)) sNil)) sErr)
def fn_Task_kind_number (a_Task : Addr) : List D → Ret := run0 4 2 (G_Task_kind_number a_Task)
def s_extend_path : Stmt := top 7
noncomputable def G_extend_path (a_Task : Addr) (rec : List D → List D → RetM) : Rho → Out := (sFor (iEnumTF (eFld a_Task "ways" (eVar 0))) (gT 2 (gsCons (gN 6) (gsCons (gN 7) gsNil))) (sSeq (sIf (tBin oNe (eMeth a_Task "kind_number" (fn_Task_kind_number a_Task) (eVar 0) (eCons (eIx (eVar 7) (eC (.int 0))) eNil) []) (eVar 2)) sCnt sNil) (sSeq (sSet 8 (eMeth a_Task "kind_number" (fn_Task_kind_number a_Task) (eVar 0) (eCons (eIx (eVar 7) (eC (.int 1))) eNil) [])) (sIf (tBin oEq (eVar 8) (eVar 1)) (sAppA 5 (eAdd (eVar 3) (eLst (eCons (eVar 6) eNil)))) (sIf (tAndF (tBin oGt (eVar 8) (eVar 1)) (tBin oNotIn (eVar 8) (eVar 4))) (sDrop (eCallM 5 rec (eCons (eVar 0) (eCons (eVar 1) (eCons (eVar 8) (eCons (eAdd (eVar 3) (eLst (eCons (eVar 6) eNil))) (eCons (eAdd (eVar 4) (eLst (eCons (eVar 8) eNil))) (eCons (eVar 5) eNil)))))))) sNil)))))
noncomputable def fn_extend_path (a_Task : Addr) : Nat → List D → List D → RetM
  | 0 => fun _ _ => .err
  | n + 1 => fnM 9 6 5 (G_extend_path a_Task (fn_extend_path a_Task n))
def s_circuits : Stmt := top 6
noncomputable def G_circuits (a_Task : Addr) : Rho → Out := (sSeq (sSet 1 (eLst eNil)) (sSeq (sFor (iRng1F (eB (bFlat fLen) (eCons (eFld a_Task "kinds" (eVar 0)) eNil))) (gN 2) (sDrop (eCallM 5 ((fn_extend_path a_Task) 12) (eCons (eVar 0) (eCons (eVar 2) (eCons (eVar 2) (eCons (eLst eNil) (eCons (eLst (eCons (eVar 2) eNil)) (eCons (eVar 1) eNil))))))))) (sRet (eVar 1))))
noncomputable def fn_circuits (a_Task : Addr) : List D → Ret := run0 3 1 (G_circuits a_Task)
def s_u_law_pick : Stmt := top 23
def G_u_law_pick : Rho → Out := (sRet (eBin oMod (eB (bFlat fInt) (eCons (eIx (eVar 0) (eVar 1)) eNil)) (eVar 2)))
def fn_u_law_pick : List D → Ret := run0 3 3 (G_u_law_pick)
def s_u_law_walk : Stmt := top 30
def G_u_law_walk : Rho → Out := (sSeq (sSet 4 (eLst (eCons (eIx (eIx (eVar 2) (eCall fn_u_law_pick (eCons (eVar 0) (eCons (eVar 1) (eCons (eB (bFlat fLen) (eCons (eVar 2) eNil)) eNil))) [])) (eC (.int 0))) eNil))) (sSeq (sSet 5 (eLst eNil)) (sSeq (sFor (iRng1F (eC (.int 12))) (gN 6) (sSeq (sSet 7 (eLc (iRng1F (eB (bFlat fLen) (eCons (eVar 3) eNil))) (gN 9) (tBin oEq (eIx (eIx (eVar 3) (eVar 9)) (eC (.int 0))) (eIx (eVar 4) (eNeg (eC (.int 1))))) (eVar 9) [9])) (sSeq (sIf (tBin oEq (eB (bFlat fLen) (eCons (eVar 7) eNil)) (eC (.int 0))) (sRet (eLst eNil)) sNil) (sSeq (sApp 5 (eIx (eVar 7) (eCall fn_u_law_pick (eCons (eVar 0) (eCons (eAdd (eAdd (eVar 1) (eC (.int 1))) (eVar 6)) (eCons (eB (bFlat fLen) (eCons (eVar 7) eNil)) eNil))) []))) (sSeq (sSet 8 (eIx (eIx (eVar 3) (eIx (eVar 5) (eNeg (eC (.int 1))))) (eC (.int 1)))) (sSeq (sIf (tBin oIn (eVar 8) (eVar 4)) (sRet (eSl (eVar 5) (oSome (eIndex (eVar 4) (eVar 8))) oNone)) sNil) (sApp 4 (eVar 8)))))))) (sRet (eLst eNil)))))
def fn_u_law_walk : List D → Ret := run0 10 4 (G_u_law_walk)
def s_u_law_ways : Stmt := top 28
def G_u_law_ways : Rho → Out := (sSeq (sSet 4 (eLst eNil)) (sSeq (sFor (iRng1F (eCall fn_u_law_pick (eCons (eVar 0) (eCons (eVar 1) (eCons (eAdd (eVar 3) (eC (.int 1))) eNil))) [])) (gN 5) (sSeq (sSet 6 (eIx (eIx (eVar 2) (eCall fn_u_law_pick (eCons (eVar 0) (eCons (eAdd (eAdd (eVar 1) (eC (.int 1))) (eMul (eC (.int 3)) (eVar 5))) (eCons (eB (bFlat fLen) (eCons (eVar 2) eNil)) eNil))) [])) (eC (.int 0)))) (sSeq (sSet 7 (eIx (eIx (eVar 2) (eCall fn_u_law_pick (eCons (eVar 0) (eCons (eAdd (eAdd (eVar 1) (eC (.int 2))) (eMul (eC (.int 3)) (eVar 5))) (eCons (eB (bFlat fLen) (eCons (eVar 2) eNil)) eNil))) [])) (eC (.int 0)))) (sApp 4 (eTup (eCons (eVar 6) (eCons (eVar 7) (eCons (eAdd (eC (.int 1)) (eCall fn_u_law_pick (eCons (eVar 0) (eCons (eAdd (eAdd (eVar 1) (eC (.int 3))) (eMul (eC (.int 3)) (eVar 5))) (eCons (eC (.int 6)) eNil))) [])) eNil)))))))) (sRet (eVar 4))))
def fn_u_law_ways : List D → Ret := run0 8 4 (G_u_law_ways)
def s_u_law_name : Stmt := top 26
def G_u_law_name : Rho → Out := (sSeq (sSet 2 (eC (.str "abcdefghijklmnopqrstuvwxyz0123456789"))) (sSeq (sSet 3 (eB (bFlat fInt) (eCons (eIx (eVar 0) (eBin oSub (eB (bFlat fLen) (eCons (eVar 0) eNil)) (eC (.int 2)))) eNil))) (sSeq (sSet 4 (eJoin (eC (.str "")) (eLc (iRng1F (eBin oMod (eB (bFlat fInt) (eCons (eVar 3) eNil)) (eC (.int 5)))) (gN 6) tYesF (eIx (eVar 2) (eBin oMod (eB (bFlat fInt) (eCons (eAdd (eAdd (eBin oDiv (eVar 3) (eC (.int 5))) (eMul (eC (.int 7)) (eVar 6))) (eMul (eVar 3) (eVar 6))) eNil)) (eC (.int 36)))) [6]))) (sSeq (sSet 5 (eBin oMod (eB (bFlat fInt) (eCons (eIx (eVar 0) (eBin oSub (eB (bFlat fLen) (eCons (eVar 0) eNil)) (eC (.int 3)))) eNil)) (eAdd (eB (bFlat fLen) (eCons (eVar 4) eNil)) (eC (.int 1))))) (sRet (eAdd (eAdd (eSl (eVar 4) oNone (oSome (eVar 5))) (eIx (eC (.str "kq3zx9")) (eVar 1))) (eSl (eVar 4) (oSome (eVar 5)) oNone)))))))
def fn_u_law_name : List D → Ret := run0 7 2 (G_u_law_name)
def s_u_law_scale : Stmt := top 25
def G_u_law_scale : Rho → Out := (sSeq (sSet 1 (eB (bFlat fInt) (eCons (eIx (eVar 0) (eBin oSub (eB (bFlat fLen) (eCons (eVar 0) eNil)) (eC (.int 1)))) eNil))) (sRet (eIx (eLst (eCons (eC (.int 1)) (eCons (eC (.int 1)) (eCons (eAdd (eC (.int 1)) (eBin oMod (eB (bFlat fInt) (eCons (eBin oDiv (eVar 1) (eC (.int 3))) eNil)) (eC (.int 249)))) eNil)))) (eBin oMod (eB (bFlat fInt) (eCons (eVar 1) eNil)) (eC (.int 3))))))
def fn_u_law_scale : List D → Ret := run0 2 1 (G_u_law_scale)
def s_u_law_kinds : Stmt := top 27
def G_u_law_kinds : Rho → Out := (sSeq (sSet 3 (eLst eNil)) (sSeq (sFor (iRng1F (eAdd (eC (.int 1)) (eCall fn_u_law_pick (eCons (eVar 0) (eCons (eVar 1) (eCons (eVar 2) eNil))) []))) (gN 4) (sSeq (sSet 5 (eMul (eCall fn_u_law_scale (eCons (eVar 0) eNil) []) (eAdd (eC (.int 1)) (eCall fn_u_law_pick (eCons (eVar 0) (eCons (eAdd (eAdd (eVar 1) (eC (.int 1))) (eMul (eC (.int 2)) (eVar 4))) (eCons (eC (.int 4)) eNil))) [])))) (sApp 3 (eTup (eCons (eCall fn_u_law_name (eCons (eVar 0) (eCons (eVar 4) eNil)) []) (eCons (eVar 5) (eCons (eAdd (eC (.int 1)) (eCall fn_u_law_pick (eCons (eVar 0) (eCons (eAdd (eAdd (eVar 1) (eC (.int 2))) (eMul (eC (.int 2)) (eVar 4))) (eCons (eC (.int 9)) eNil))) [])) eNil))))))) (sRet (eVar 3))))
def fn_u_law_kinds : List D → Ret := run0 6 3 (G_u_law_kinds)
def s_u_law_row : Stmt := top 21
def G_u_law_row : Rho → Out := (sSeq (sSet 2 (eLst eNil)) (sSeq (sSet 3 (eB (bFlat fAbs) (eCons (eVar 0) eNil))) (sSeq (sFor (iRng1F (eVar 1)) (gN 4) (sIf (tBin oGe (eB (bFlat fAbs) (eCons (eVar 0) eNil)) (eBin oPow (eC (.int 10)) (eC (.int 18)))) (sSeq (sApp 2 (eBin oMod (eB (bFlat fInt) (eCons (eVar 3) eNil)) (eC (.int 1009)))) (sSet 3 (eBin oDiv (eVar 3) (eC (.int 1009))))) (sSeq (sSet 5 (eBin oMod (eB (bFlat fInt) (eCons (eAdd (eMul (eVar 3) (eC (.int 48271))) (eMul (eAdd (eVar 4) (eC (.int 1))) (eC (.int 69621)))) eNil)) (eC (.int 2147483647)))) (sSeq (sSet 5 (eBin oMod (eB (bFlat fInt) (eCons (eAdd (eMul (eVar 5) (eC (.int 16807))) (eMul (eC (.int 271)) (eAdd (eVar 4) (eC (.int 3))))) eNil)) (eC (.int 2147483629)))) (sApp 2 (eBin oMod (eB (bFlat fInt) (eCons (eVar 5) eNil)) (eC (.int 1009)))))))) (sRet (eVar 2)))))
def fn_u_law_row : List D → Ret := run0 6 2 (G_u_law_row)
def s_u_law_numbers : Stmt := top 22
def G_u_law_numbers : Rho → Out := (sSeq (sSet 2 (eSl (eVar 0) oNone (oSome (eC (.int 63))))) (sSeq (sSet 3 (eAdd (eC (.int 1)) (eBin oDiv (eVar 1) (eB (bFlat fMax2) (eCons (eC (.int 1)) (eCons (eB (bFlat fLen) (eCons (eVar 2) eNil)) eNil)))))) (sSeq (sSet 4 (eLst eNil)) (sSeq (sFor (iSeq (eVar 2)) (gN 5) (sFor (iSeq (eCall fn_u_law_row (eCons (eVar 5) (eCons (eVar 3) eNil)) [])) (gN 6) (sApp 4 (eVar 6)))) (sSeq (sWhile (tBin oLt (eB (bFlat fLen) (eCons (eVar 4) eNil)) (eVar 1)) (sApp 4 (eC (.int 0)))) (sRet (eSl (eVar 4) oNone (oSome (eVar 1)))))))))
def fn_u_law_numbers : List D → Ret := run0 7 2 (G_u_law_numbers)
def s_law : Stmt := top 33
noncomputable def G_law (a_Task : Addr) : Rho → Out := (sSeq (sSet 1 (eCall fn_u_law_numbers (eCons (eVar 0) (eCons (eC (.int 67)) eNil)) [])) (sSeq (sSet 2 (eCall fn_u_law_kinds (eCons (eVar 1) (eCons (eC (.int 0)) (eCons (eC (.int 6)) eNil))) [])) (sSeq (sSet 3 (eCall fn_u_law_ways (eCons (eVar 1) (eCons (eC (.int 13)) (eCons (eVar 2) (eCons (eC (.int 12)) eNil)))) [])) (sSeq (sSet 4 (eCall fn_u_law_walk (eCons (eVar 1) (eCons (eC (.int 50)) (eCons (eVar 2) (eCons (eVar 3) eNil)))) [])) (sSeq (sSet 5 (eCall (fn_circuits a_Task) (eCons (eMakeK (mkF a_Task (fn_Task___init__ a_Task)) (eCons (eC (.str "t")) eNil) (eCons (eB bList (eCons (eVar 2) eNil)) (eCons (eB bList (eCons (eVar 3) eNil)) eNil)) []) eNil) [])) (sSeq (sIf (tNotF (tTru (eIsi "list" (eVar 5)))) (sRet (eC (.bl false))) sNil) (sSeq (sSet 6 (eLst eNil)) (sSeq (sFor (iSeq (eVar 5)) (gN 7) (sSeq (sIf (tNotF (tTru (eCall fn_u_law_is_circuit (eCons (eVar 2) (eCons (eVar 3) (eCons (eVar 7) eNil))) []))) (sRet (eC (.bl false))) sNil) (sApp 6 (eTup (eCons (eCall fn_u_law_number (eCons (eVar 2) (eCons (eIx (eIx (eVar 3) (eIx (eVar 7) (eC (.int 0)))) (eC (.int 0))) eNil)) []) (eCons (eB bList (eCons (eVar 7) eNil)) eNil)))))) (sSeq (sFor (iRng1F (eBin oSub (eB (bFlat fLen) (eCons (eVar 6) eNil)) (eC (.int 1)))) (gN 8) (sIf (tNotF (tBin oLtD (eIx (eVar 6) (eVar 8)) (eIx (eVar 6) (eAdd (eVar 8) (eC (.int 1)))))) (sRet (eC (.bl false))) sNil)) (sSeq (sIf (tBin oEq (eB (bFlat fLen) (eCons (eVar 4) eNil)) (eC (.int 0))) (sRet (eC (.bl true))) sNil) (sRet (eBin oInD (eCall fn_u_law_turned (eCons (eVar 2) (eCons (eVar 3) (eCons (eVar 4) eNil))) []) (eVar 5)))))))))))))
noncomputable def fn_law (a_Task : Addr) : List D → Ret := run0 9 1 (G_law a_Task)
end Cl
namespace Cl
open PySem L2 FP
structure Txt (P : Program) (K : PySem.W.Frag) (mg : Str → Option Value) (a_Task : Addr) (a_u_law_number : Addr) (d_u_law_number : FuncData) (a_u_law_turned : Addr) (d_u_law_turned : FuncData) (a_u_law_is_integer : Addr) (d_u_law_is_integer : FuncData) (a_u_law_is_circuit : Addr) (d_u_law_is_circuit : FuncData) (a_are_ways : Addr) (d_are_ways : FuncData) (a_is_name : Addr) (d_is_name : FuncData) (a_are_kinds : Addr) (d_are_kinds : FuncData) (a_Task___init__ : Addr) (d_Task___init__ : FuncData) (a_Task_kind_number : Addr) (d_Task_kind_number : FuncData) (a_extend_path : Addr) (d_extend_path : FuncData) (a_circuits : Addr) (d_circuits : FuncData) (a_u_law_pick : Addr) (d_u_law_pick : FuncData) (a_u_law_walk : Addr) (d_u_law_walk : FuncData) (a_u_law_ways : Addr) (d_u_law_ways : FuncData) (a_u_law_name : Addr) (d_u_law_name : FuncData) (a_u_law_scale : Addr) (d_u_law_scale : FuncData) (a_u_law_kinds : Addr) (d_u_law_kinds : FuncData) (a_u_law_row : Addr) (d_u_law_row : FuncData) (a_u_law_numbers : Addr) (d_u_law_numbers : FuncData) (a_law : Addr) (d_law : FuncData) : Prop where
  c_Task : Cls K a_Task
  m_Task : mg "Task" = some (.ref a_Task)
  na_Task_kinds : NoAttr K a_Task "kinds"
  na_Task_name : NoAttr K a_Task "name"
  na_Task_ways : NoAttr K a_Task "ways"
  F_u_law_number : Fun K "_law_number" "_law_number" s_u_law_number a_u_law_number d_u_law_number
  m_u_law_number : mg "_law_number" = some (.ref a_u_law_number)
  B_u_law_number : Binds K d_u_law_number ["_law_kinds_here", "_law_name_here"] []
  F_u_law_turned : Fun K "_law_turned" "_law_turned" s_u_law_turned a_u_law_turned d_u_law_turned
  m_u_law_turned : mg "_law_turned" = some (.ref a_u_law_turned)
  B_u_law_turned : Binds K d_u_law_turned ["_law_kinds_here", "_law_ways_here", "_law_path"] []
  F_u_law_is_integer : Fun K "_law_is_integer" "_law_is_integer" s_u_law_is_integer a_u_law_is_integer d_u_law_is_integer
  m_u_law_is_integer : mg "_law_is_integer" = some (.ref a_u_law_is_integer)
  B_u_law_is_integer : Binds K d_u_law_is_integer ["_law_actual"] []
  F_u_law_is_circuit : Fun K "_law_is_circuit" "_law_is_circuit" s_u_law_is_circuit a_u_law_is_circuit d_u_law_is_circuit
  m_u_law_is_circuit : mg "_law_is_circuit" = some (.ref a_u_law_is_circuit)
  B_u_law_is_circuit : Binds K d_u_law_is_circuit ["_law_kinds_here", "_law_ways_here", "_law_circuit"] []
  F_are_ways : Fun K "are_ways" "are_ways" s_are_ways a_are_ways d_are_ways
  m_are_ways : mg "are_ways" = some (.ref a_are_ways)
  B_are_ways : Binds K d_are_ways ["ways", "kind_names"] []
  F_is_name : Fun K "is_name" "is_name" s_is_name a_is_name d_is_name
  m_is_name : mg "is_name" = some (.ref a_is_name)
  B_is_name : Binds K d_is_name ["text"] []
  F_are_kinds : Fun K "are_kinds" "are_kinds" s_are_kinds a_are_kinds d_are_kinds
  m_are_kinds : mg "are_kinds" = some (.ref a_are_kinds)
  B_are_kinds : Binds K d_are_kinds ["kinds"] []
  F_Task___init__ : Fun K "__init__" "Task.__init__" s_Task___init__ a_Task___init__ d_Task___init__
  M_Task : Mk K a_Task a_Task___init__
  F_Task_kind_number : Fun K "kind_number" "Task.kind_number" s_Task_kind_number a_Task_kind_number d_Task_kind_number
  me_Task_kind_number : Meth K a_Task "kind_number" a_Task_kind_number
  B_Task_kind_number : Binds K d_Task_kind_number ["self", "kind_name"] []
  F_extend_path : Fun K "extend_path" "extend_path" s_extend_path a_extend_path d_extend_path
  m_extend_path : mg "extend_path" = some (.ref a_extend_path)
  B_extend_path : Binds K d_extend_path ["task", "start", "last", "path", "visited", "found"] []
  F_circuits : Fun K "circuits" "circuits" s_circuits a_circuits d_circuits
  m_circuits : mg "circuits" = some (.ref a_circuits)
  B_circuits : Binds K d_circuits ["task"] []
  F_u_law_pick : Fun K "_law_pick" "_law_pick" s_u_law_pick a_u_law_pick d_u_law_pick
  m_u_law_pick : mg "_law_pick" = some (.ref a_u_law_pick)
  B_u_law_pick : Binds K d_u_law_pick ["_law_numbers_here", "_law_at", "_law_count"] []
  F_u_law_walk : Fun K "_law_walk" "_law_walk" s_u_law_walk a_u_law_walk d_u_law_walk
  m_u_law_walk : mg "_law_walk" = some (.ref a_u_law_walk)
  B_u_law_walk : Binds K d_u_law_walk ["_law_numbers_here", "_law_at", "_law_kinds_here", "_law_ways_here"] []
  F_u_law_ways : Fun K "_law_ways" "_law_ways" s_u_law_ways a_u_law_ways d_u_law_ways
  m_u_law_ways : mg "_law_ways" = some (.ref a_u_law_ways)
  B_u_law_ways : Binds K d_u_law_ways ["_law_numbers_here", "_law_at", "_law_kinds_here", "_law_most"] []
  F_u_law_name : Fun K "_law_name" "_law_name" s_u_law_name a_u_law_name d_u_law_name
  m_u_law_name : mg "_law_name" = some (.ref a_u_law_name)
  B_u_law_name : Binds K d_u_law_name ["_law_numbers_here", "_law_k"] []
  F_u_law_scale : Fun K "_law_scale" "_law_scale" s_u_law_scale a_u_law_scale d_u_law_scale
  m_u_law_scale : mg "_law_scale" = some (.ref a_u_law_scale)
  B_u_law_scale : Binds K d_u_law_scale ["_law_numbers_here"] []
  F_u_law_kinds : Fun K "_law_kinds" "_law_kinds" s_u_law_kinds a_u_law_kinds d_u_law_kinds
  m_u_law_kinds : mg "_law_kinds" = some (.ref a_u_law_kinds)
  B_u_law_kinds : Binds K d_u_law_kinds ["_law_numbers_here", "_law_at", "_law_most"] []
  F_u_law_row : Fun K "_law_row" "_law_row" s_u_law_row a_u_law_row d_u_law_row
  m_u_law_row : mg "_law_row" = some (.ref a_u_law_row)
  B_u_law_row : Binds K d_u_law_row ["_law_cell", "_law_many"] []
  F_u_law_numbers : Fun K "_law_numbers" "_law_numbers" s_u_law_numbers a_u_law_numbers d_u_law_numbers
  m_u_law_numbers : mg "_law_numbers" = some (.ref a_u_law_numbers)
  B_u_law_numbers : Binds K d_u_law_numbers ["_law_script", "_law_many"] []
  F_law : Fun K "law" "law" s_law a_law d_law
  m_law : mg "law" = some (.ref a_law)
  B_law : Binds K d_law ["_law_script"] []
  g_MOST_COST : ∃ t, mg "MOST_COST" = some (.int 1000 t)
  g_MOST_DEADLINE : ∃ t, mg "MOST_DEADLINE" = some (.int 1000 t)
  g_MOST_DISTANCE : ∃ t, mg "MOST_DISTANCE" = some (.int 1000 t)
  g_MOST_KINDS : ∃ t, mg "MOST_KINDS" = some (.int 8 t)
  g_MOST_NAME_CHARS : ∃ t, mg "MOST_NAME_CHARS" = some (.int 12 t)
  g_MOST_WAYS : ∃ t, mg "MOST_WAYS" = some (.int 16 t)
  g_NAME_CHARS : ∃ t, mg "NAME_CHARS" = some (.str "abcdefghijklmnopqrstuvwxyz0123456789" t)
  b_abs : mg "abs" = none
  b_all : mg "all" = none
  b_bool : mg "bool" = none
  b_enumerate : mg "enumerate" = none
  b_int : mg "int" = none
  b_isinstance : mg "isinstance" = none
  b_len : mg "len" = none
  b_list : mg "list" = none
  b_max : mg "max" = none
  b_min : mg "min" = none
  b_range : mg "range" = none
  b_tuple : mg "tuple" = none
section
variable {P : Program} {w : World} {K : PySem.W.Frag} {mg : Str → Option Value} {base : Heap} {a_Task : Addr} {a_u_law_number : Addr} {d_u_law_number : FuncData} {a_u_law_turned : Addr} {d_u_law_turned : FuncData} {a_u_law_is_integer : Addr} {d_u_law_is_integer : FuncData} {a_u_law_is_circuit : Addr} {d_u_law_is_circuit : FuncData} {a_are_ways : Addr} {d_are_ways : FuncData} {a_is_name : Addr} {d_is_name : FuncData} {a_are_kinds : Addr} {d_are_kinds : FuncData} {a_Task___init__ : Addr} {d_Task___init__ : FuncData} {a_Task_kind_number : Addr} {d_Task_kind_number : FuncData} {a_extend_path : Addr} {d_extend_path : FuncData} {a_circuits : Addr} {d_circuits : FuncData} {a_u_law_pick : Addr} {d_u_law_pick : FuncData} {a_u_law_walk : Addr} {d_u_law_walk : FuncData} {a_u_law_ways : Addr} {d_u_law_ways : FuncData} {a_u_law_name : Addr} {d_u_law_name : FuncData} {a_u_law_scale : Addr} {d_u_law_scale : FuncData} {a_u_law_kinds : Addr} {d_u_law_kinds : FuncData} {a_u_law_row : Addr} {d_u_law_row : FuncData} {a_u_law_numbers : Addr} {d_u_law_numbers : FuncData} {a_law : Addr} {d_law : FuncData}
theorem sc_u_law_number : FnScope ["_law_kinds_here", "_law_name_here", "_law_number_here"] ["_law_kinds_here", "_law_name_here"] (defScope s_u_law_number) := ⟨rfl, rfl, rfl, by decide +kernel, rfl, by decide +kernel, by decide +kernel⟩
theorem ok_u_law_number (T : Txt P K mg a_Task a_u_law_number d_u_law_number a_u_law_turned d_u_law_turned a_u_law_is_integer d_u_law_is_integer a_u_law_is_circuit d_u_law_is_circuit a_are_ways d_are_ways a_is_name d_is_name a_are_kinds d_are_kinds a_Task___init__ d_Task___init__ a_Task_kind_number d_Task_kind_number a_extend_path d_extend_path a_circuits d_circuits a_u_law_pick d_u_law_pick a_u_law_walk d_u_law_walk a_u_law_ways d_u_law_ways a_u_law_name d_u_law_name a_u_law_scale d_u_law_scale a_u_law_kinds d_u_law_kinds a_u_law_row d_u_law_row a_u_law_numbers d_u_law_numbers a_law d_law) : FnOk P w K mg base CX0 1 a_u_law_number d_u_law_number ["_law_kinds_here", "_law_name_here"] (spF K (fn_u_law_number)) := by
  have S := sc_u_law_number
  refine fn_ok T.F_u_law_number S fun cdv A outer s H E hr => ?_
  have hu := hu64 hr
  exact (fb_cons (fs_for PassesOwn.never rfl (fi_rng1 rfl T.b_range (fe_callB b_len rfl T.b_len bt_len (fa_cons (fe_v 0) fa_nil))) (fg_name (i := 2) S.nd rfl (by first | exact Or.inl rfl | exact Or.inr rfl | exact Or.inr (Or.inl rfl) | exact Or.inr (Or.inr rfl))) (fb_one (fs_if (ft_cmp (o2_eq hu) (fe_ix (fe_ix (fe_v 0) (fe_v 2)) fe_int) (fe_v 1) (by rfl)) (fb_one (fs_ret (fe_v 2))) fb_nil)))
      (fb_one (fs_ret fe_int)))
theorem sc_u_law_turned : FnScope ["_law_kinds_here", "_law_ways_here", "_law_path", "_law_places", "_law_first", "_law_number_here"] ["_law_kinds_here", "_law_ways_here", "_law_path"] (defScope s_u_law_turned) := ⟨rfl, rfl, rfl, by decide +kernel, rfl, by decide +kernel, by decide +kernel⟩
theorem ok_u_law_turned (T : Txt P K mg a_Task a_u_law_number d_u_law_number a_u_law_turned d_u_law_turned a_u_law_is_integer d_u_law_is_integer a_u_law_is_circuit d_u_law_is_circuit a_are_ways d_are_ways a_is_name d_is_name a_are_kinds d_are_kinds a_Task___init__ d_Task___init__ a_Task_kind_number d_Task_kind_number a_extend_path d_extend_path a_circuits d_circuits a_u_law_pick d_u_law_pick a_u_law_walk d_u_law_walk a_u_law_ways d_u_law_ways a_u_law_name d_u_law_name a_u_law_scale d_u_law_scale a_u_law_kinds d_u_law_kinds a_u_law_row d_u_law_row a_u_law_numbers d_u_law_numbers a_law d_law) : FnOk P w K mg base CX0 2 a_u_law_turned d_u_law_turned ["_law_kinds_here", "_law_ways_here", "_law_path"] (spF K (fn_u_law_turned)) := by
  have S := sc_u_law_turned
  refine fn_ok T.F_u_law_turned S fun cdv A outer s H E hr => ?_
  have hu := hu64 hr
  exact (fb_cons (fs_setLc (i := 3) (own := [("_law_number_here", 5)]) rfl S.nd rfl rfl rfl (fi_seq (fe_v 2)) (blk_of (N := ["_law_kinds_here", "_law_ways_here", "_law_path", "_law_places", "_law_first", "_law_number_here"]) (sc := (defScope s_u_law_turned)) (by decide +kernel) rfl rfl) (fun _ _ _ _ _ => (fg_name (i := 5) S.nd rfl (by first | exact Or.inl rfl | exact Or.inr rfl | exact Or.inr (Or.inl rfl) | exact Or.inr (Or.inr rfl)))) (fun _ _ _ _ _ => fts_nil) (fun _ _ _ _ _ => (fe_call (ok_u_law_number T) (hr.mono (by decide)) rfl T.m_u_law_number T.F_u_law_number.kp T.B_u_law_number .nil (fun _ => .nil) (fa_cons (fe_v 0) (fa_cons (fe_ix (fe_ix (fe_v 1) (fe_v 5)) fe_int) fa_nil)))) (by intro j hj; exact hj))
      (fb_cons (fs_set (i := 4) (fe_index (fe_v 3) (fe_callB (b_min rfl) rfl T.b_min bt_min (fa_cons (fe_v 3) fa_nil))) S.nd rfl (by first | exact Or.inl rfl | exact Or.inr rfl | exact Or.inr (Or.inl rfl) | exact Or.inr (Or.inr rfl)))
      (fb_one (fs_ret (fe_add (fe_slice (fe_v 2) (fo_some (fe_v 4)) fo_none) (fe_slice (fe_v 2) fo_none (fo_some (fe_v 4))))))))
theorem sc_u_law_is_integer : FnScope ["_law_actual"] ["_law_actual"] (defScope s_u_law_is_integer) := ⟨rfl, rfl, rfl, by decide +kernel, rfl, by decide +kernel, by decide +kernel⟩
theorem ok_u_law_is_integer (T : Txt P K mg a_Task a_u_law_number d_u_law_number a_u_law_turned d_u_law_turned a_u_law_is_integer d_u_law_is_integer a_u_law_is_circuit d_u_law_is_circuit a_are_ways d_are_ways a_is_name d_is_name a_are_kinds d_are_kinds a_Task___init__ d_Task___init__ a_Task_kind_number d_Task_kind_number a_extend_path d_extend_path a_circuits d_circuits a_u_law_pick d_u_law_pick a_u_law_walk d_u_law_walk a_u_law_ways d_u_law_ways a_u_law_name d_u_law_name a_u_law_scale d_u_law_scale a_u_law_kinds d_u_law_kinds a_u_law_row d_u_law_row a_u_law_numbers d_u_law_numbers a_law d_law) : FnOk P w K mg base CX0 1 a_u_law_is_integer d_u_law_is_integer ["_law_actual"] (spF K (fn_u_law_is_integer)) := by
  have S := sc_u_law_is_integer
  refine fn_ok T.F_u_law_is_integer S fun cdv A outer s H E hr => ?_
  have hu := hu64 hr
  exact (fb_one (fs_ret (fe_and (fe_isi (T := "int") (by decide +kernel) rfl T.b_isinstance (fe_v 0) (pe_ty rfl T.b_int bt_int)) (fe_one (fe_not (fe_isi (T := "bool") (by decide +kernel) rfl T.b_isinstance (fe_v 0) (pe_ty rfl T.b_bool bt_bool)))))))
theorem sc_u_law_is_circuit : FnScope ["_law_kinds_here", "_law_ways_here", "_law_circuit", "_law_sources", "_law_k", "_law_number_here"] ["_law_kinds_here", "_law_ways_here", "_law_circuit"] (defScope s_u_law_is_circuit) := ⟨rfl, rfl, rfl, by decide +kernel, rfl, by decide +kernel, by decide +kernel⟩
theorem ok_u_law_is_circuit (T : Txt P K mg a_Task a_u_law_number d_u_law_number a_u_law_turned d_u_law_turned a_u_law_is_integer d_u_law_is_integer a_u_law_is_circuit d_u_law_is_circuit a_are_ways d_are_ways a_is_name d_is_name a_are_kinds d_are_kinds a_Task___init__ d_Task___init__ a_Task_kind_number d_Task_kind_number a_extend_path d_extend_path a_circuits d_circuits a_u_law_pick d_u_law_pick a_u_law_walk d_u_law_walk a_u_law_ways d_u_law_ways a_u_law_name d_u_law_name a_u_law_scale d_u_law_scale a_u_law_kinds d_u_law_kinds a_u_law_row d_u_law_row a_u_law_numbers d_u_law_numbers a_law d_law) : FnOk P w K mg base CX0 2 a_u_law_is_circuit d_u_law_is_circuit ["_law_kinds_here", "_law_ways_here", "_law_circuit"] (spF K (fn_u_law_is_circuit)) := by
  have S := sc_u_law_is_circuit
  refine fn_ok T.F_u_law_is_circuit S fun cdv A outer s H E hr => ?_
  have hu := hu64 hr
  exact (fb_cons (fs_if (ft_w (fw_or (ft_not (ft_tru (fe_isi (T := "list") (by decide +kernel) rfl T.b_isinstance (fe_v 2) (pe_ty rfl T.b_list bt_list)))) (fw_or1 (ft_cmp (o2_eq hu) (fe_callB b_len rfl T.b_len bt_len (fa_cons (fe_v 2) fa_nil)) fe_int (by rfl))))) (fb_one (fs_ret fe_bl)) fb_nil)
      (fb_cons (fs_if (ft_not (ft_tru (fe_callB (b_all rfl) rfl T.b_all bt_all (fa_cons (fe_lc (own := [("_law_number_here", 5)]) rfl S.nd (fi_seq (fe_v 2)) (blk_of (N := ["_law_kinds_here", "_law_ways_here", "_law_circuit", "_law_sources", "_law_k", "_law_number_here"]) (sc := (defScope s_u_law_is_circuit)) (by decide +kernel) rfl rfl) (fun _ _ _ _ _ => (fg_name (i := 5) S.nd rfl (by first | exact Or.inl rfl | exact Or.inr rfl | exact Or.inr (Or.inl rfl) | exact Or.inr (Or.inr rfl)))) (fun _ _ _ _ _ => fts_nil) (fun _ _ _ _ _ => (fe_and (fe_call (ok_u_law_is_integer T) (hr.mono (by decide)) rfl T.m_u_law_is_integer T.F_u_law_is_integer.kp T.B_u_law_is_integer .nil (fun _ => .nil) (fa_cons (fe_v 5) fa_nil)) (fe_one (fe_chain (o2_le) (o2_lt) fe_int (fe_v 5) (fe_callB b_len rfl T.b_len bt_len (fa_cons (fe_v 1) fa_nil)))))) (by intro j hj; exact hj)) fa_nil)))) (fb_one (fs_ret fe_bl)) fb_nil)
      (fb_cons (fs_setLc (i := 3) (own := [("_law_number_here", 5)]) rfl S.nd rfl rfl rfl (fi_seq (fe_v 2)) (blk_of (N := ["_law_kinds_here", "_law_ways_here", "_law_circuit", "_law_sources", "_law_k", "_law_number_here"]) (sc := (defScope s_u_law_is_circuit)) (by decide +kernel) rfl rfl) (fun _ _ _ _ _ => (fg_name (i := 5) S.nd rfl (by first | exact Or.inl rfl | exact Or.inr rfl | exact Or.inr (Or.inl rfl) | exact Or.inr (Or.inr rfl)))) (fun _ _ _ _ _ => fts_nil) (fun _ _ _ _ _ => (fe_call (ok_u_law_number T) (hr.mono (by decide)) rfl T.m_u_law_number T.F_u_law_number.kp T.B_u_law_number .nil (fun _ => .nil) (fa_cons (fe_v 0) (fa_cons (fe_ix (fe_ix (fe_v 1) (fe_v 5)) fe_int) fa_nil)))) (by intro j hj; exact hj))
      (fb_cons (fs_for PassesOwn.never rfl (fi_rng1 rfl T.b_range (fe_callB b_len rfl T.b_len bt_len (fa_cons (fe_v 2) fa_nil))) (fg_name (i := 4) S.nd rfl (by first | exact Or.inl rfl | exact Or.inr rfl | exact Or.inr (Or.inl rfl) | exact Or.inr (Or.inr rfl))) (fb_cons (fs_if (ft_cmp (o2_ne hu) (fe_call (ok_u_law_number T) (hr.mono (by decide)) rfl T.m_u_law_number T.F_u_law_number.kp T.B_u_law_number .nil (fun _ => .nil) (fa_cons (fe_v 0) (fa_cons (fe_ix (fe_ix (fe_v 1) (fe_ix (fe_v 2) (fe_v 4))) fe_int) fa_nil))) (fe_ix (fe_v 3) (fe_op o2_mod (fe_callT b_int rfl T.b_int bt_int (fa_cons (fe_add (fe_v 4) fe_int) fa_nil)) (fe_callB b_len rfl T.b_len bt_len (fa_cons (fe_v 2) fa_nil)))) (by rfl)) (fb_one (fs_ret fe_bl)) fb_nil)
      (fb_one (fs_if (ft_w (fw_or (ft_cmp (o2_in) (fe_ix (fe_v 3) (fe_v 4)) (fe_slice (fe_v 3) fo_none (fo_some (fe_v 4))) (by rfl)) (fw_or1 (ft_cmp (o2_lt) (fe_ix (fe_v 3) (fe_v 4)) (fe_ix (fe_v 3) fe_int) (by rfl))))) (fb_one (fs_ret fe_bl)) fb_nil))))
      (fb_one (fs_ret fe_bl))))))
theorem sc_are_ways : FnScope ["ways", "kind_names", "source", "target", "distance"] ["ways", "kind_names"] (defScope s_are_ways) := ⟨rfl, rfl, rfl, by decide +kernel, rfl, by decide +kernel, by decide +kernel⟩
theorem ok_are_ways (T : Txt P K mg a_Task a_u_law_number d_u_law_number a_u_law_turned d_u_law_turned a_u_law_is_integer d_u_law_is_integer a_u_law_is_circuit d_u_law_is_circuit a_are_ways d_are_ways a_is_name d_is_name a_are_kinds d_are_kinds a_Task___init__ d_Task___init__ a_Task_kind_number d_Task_kind_number a_extend_path d_extend_path a_circuits d_circuits a_u_law_pick d_u_law_pick a_u_law_walk d_u_law_walk a_u_law_ways d_u_law_ways a_u_law_name d_u_law_name a_u_law_scale d_u_law_scale a_u_law_kinds d_u_law_kinds a_u_law_row d_u_law_row a_u_law_numbers d_u_law_numbers a_law d_law) : FnOk P w K mg base CX0 1 a_are_ways d_are_ways ["ways", "kind_names"] (spF K (fn_are_ways)) := by
  have S := sc_are_ways
  refine fn_ok T.F_are_ways S fun cdv A outer s H E hr => ?_
  have hu := hu64 hr
  exact (fb_cons (fs_if (ft_cmp (o2_gt) (fe_callB b_len rfl T.b_len bt_len (fa_cons (fe_v 0) fa_nil)) (fe_gint rfl T.g_MOST_WAYS) (by rfl)) (fb_one (fs_ret fe_bl)) fb_nil)
      (fb_cons (fs_for PassesOwn.never rfl (fi_seq (fe_v 0)) (fg_tup rfl (fgs_cons (fg_name (i := 2) S.nd rfl (by first | exact Or.inl rfl | exact Or.inr rfl | exact Or.inr (Or.inl rfl) | exact Or.inr (Or.inr rfl))) (fgs_cons (fg_name (i := 3) S.nd rfl (by first | exact Or.inl rfl | exact Or.inr rfl | exact Or.inr (Or.inl rfl) | exact Or.inr (Or.inr rfl))) (fgs_cons (fg_name (i := 4) S.nd rfl (by first | exact Or.inl rfl | exact Or.inr rfl | exact Or.inr (Or.inl rfl) | exact Or.inr (Or.inr rfl))) fgs_nil)))) (fb_cons (fs_if (ft_w (fw_or (ft_cmp (o2_notIn) (fe_v 2) (fe_v 1) (by rfl)) (fw_or1 (ft_cmp (o2_notIn) (fe_v 3) (fe_v 1) (by rfl))))) (fb_one (fs_ret fe_bl)) fb_nil)
      (fb_one (fs_if (ft_not (ft_chain (o2_le) (o2_le) fe_int (fe_v 4) (fe_gint rfl T.g_MOST_DISTANCE))) (fb_one (fs_ret fe_bl)) fb_nil))))
      (fb_one (fs_ret fe_bl))))
theorem sc_is_name : FnScope ["text", "char"] ["text"] (defScope s_is_name) := ⟨rfl, rfl, rfl, by decide +kernel, rfl, by decide +kernel, by decide +kernel⟩
theorem ok_is_name (T : Txt P K mg a_Task a_u_law_number d_u_law_number a_u_law_turned d_u_law_turned a_u_law_is_integer d_u_law_is_integer a_u_law_is_circuit d_u_law_is_circuit a_are_ways d_are_ways a_is_name d_is_name a_are_kinds d_are_kinds a_Task___init__ d_Task___init__ a_Task_kind_number d_Task_kind_number a_extend_path d_extend_path a_circuits d_circuits a_u_law_pick d_u_law_pick a_u_law_walk d_u_law_walk a_u_law_ways d_u_law_ways a_u_law_name d_u_law_name a_u_law_scale d_u_law_scale a_u_law_kinds d_u_law_kinds a_u_law_row d_u_law_row a_u_law_numbers d_u_law_numbers a_law d_law) : FnOk P w K mg base CX0 1 a_is_name d_is_name ["text"] (spF K (fn_is_name)) := by
  have S := sc_is_name
  refine fn_ok T.F_is_name S fun cdv A outer s H E hr => ?_
  have hu := hu64 hr
  exact (fb_cons (fs_if (ft_not (ft_chain (o2_le) (o2_le) fe_int (fe_callB b_len rfl T.b_len bt_len (fa_cons (fe_v 0) fa_nil)) (fe_gint rfl T.g_MOST_NAME_CHARS))) (fb_one (fs_ret fe_bl)) fb_nil)
      (fb_one (fs_ret (fe_callB (b_all rfl) rfl T.b_all bt_all (fa_cons (fe_lc (own := [("char", 1)]) rfl S.nd (fi_any (fe_v 0)) (blk_of (N := ["text", "char"]) (sc := (defScope s_is_name)) (by decide +kernel) rfl rfl) (fun _ _ _ _ _ => (fg_name (i := 1) S.nd rfl (by first | exact Or.inl rfl | exact Or.inr rfl | exact Or.inr (Or.inl rfl) | exact Or.inr (Or.inr rfl)))) (fun _ _ _ _ _ => fts_nil) (fun _ _ _ _ _ => (fe_cmp (o2_in) (fe_v 1) (fe_gstr rfl T.g_NAME_CHARS) (by rfl))) (by intro j hj; exact hj)) fa_nil)))))
theorem sc_are_kinds : FnScope ["kinds", "seen", "name", "cost", "deadline"] ["kinds"] (defScope s_are_kinds) := ⟨rfl, rfl, rfl, by decide +kernel, rfl, by decide +kernel, by decide +kernel⟩
theorem ok_are_kinds (T : Txt P K mg a_Task a_u_law_number d_u_law_number a_u_law_turned d_u_law_turned a_u_law_is_integer d_u_law_is_integer a_u_law_is_circuit d_u_law_is_circuit a_are_ways d_are_ways a_is_name d_is_name a_are_kinds d_are_kinds a_Task___init__ d_Task___init__ a_Task_kind_number d_Task_kind_number a_extend_path d_extend_path a_circuits d_circuits a_u_law_pick d_u_law_pick a_u_law_walk d_u_law_walk a_u_law_ways d_u_law_ways a_u_law_name d_u_law_name a_u_law_scale d_u_law_scale a_u_law_kinds d_u_law_kinds a_u_law_row d_u_law_row a_u_law_numbers d_u_law_numbers a_law d_law) : FnOk P w K mg base CX0 2 a_are_kinds d_are_kinds ["kinds"] (spF K (fn_are_kinds)) := by
  have S := sc_are_kinds
  refine fn_ok T.F_are_kinds S fun cdv A outer s H E hr => ?_
  have hu := hu64 hr
  exact (fb_cons (fs_if (ft_not (ft_chain (o2_le) (o2_le) fe_int (fe_callB b_len rfl T.b_len bt_len (fa_cons (fe_v 0) fa_nil)) (fe_gint rfl T.g_MOST_KINDS))) (fb_one (fs_ret fe_bl)) fb_nil)
      (fb_cons (fs_set (i := 1) (fe_lst fa_nil) S.nd rfl (by first | exact Or.inl rfl | exact Or.inr rfl | exact Or.inr (Or.inl rfl) | exact Or.inr (Or.inr rfl)))
      (fb_cons (fs_for PassesOwn.never rfl (fi_seq (fe_v 0)) (fg_tup rfl (fgs_cons (fg_name (i := 2) S.nd rfl (by first | exact Or.inl rfl | exact Or.inr rfl | exact Or.inr (Or.inl rfl) | exact Or.inr (Or.inr rfl))) (fgs_cons (fg_name (i := 3) S.nd rfl (by first | exact Or.inl rfl | exact Or.inr rfl | exact Or.inr (Or.inl rfl) | exact Or.inr (Or.inr rfl))) (fgs_cons (fg_name (i := 4) S.nd rfl (by first | exact Or.inl rfl | exact Or.inr rfl | exact Or.inr (Or.inl rfl) | exact Or.inr (Or.inr rfl))) fgs_nil)))) (fb_cons (fs_if (ft_w (fw_or (ft_not (ft_tru (fe_call (ok_is_name T) (hr.mono (by decide)) rfl T.m_is_name T.F_is_name.kp T.B_is_name .nil (fun _ => .nil) (fa_cons (fe_v 2) fa_nil)))) (fw_or1 (ft_cmp (o2_in) (fe_v 2) (fe_v 1) (by rfl))))) (fb_one (fs_ret fe_bl)) fb_nil)
      (fb_cons (fs_if (ft_w (fw_or (ft_not (ft_chain (o2_le) (o2_le) fe_int (fe_v 3) (fe_gint rfl T.g_MOST_COST))) (fw_or1 (ft_not (ft_chain (o2_le) (o2_le) fe_int (fe_v 4) (fe_gint rfl T.g_MOST_DEADLINE)))))) (fb_one (fs_ret fe_bl)) fb_nil)
      (fb_one (fs_append (i := 1) rfl (by first | exact Or.inl rfl | exact Or.inr rfl | exact Or.inr (Or.inl rfl) | exact Or.inr (Or.inr rfl)) (fe_v 2))))))
      (fb_one (fs_ret fe_bl)))))
theorem sc_Task___init__ : FnScope ["self", "name", "kinds", "ways", "kind", "way"] ["self", "name", "kinds", "ways"] (defScope s_Task___init__) := ⟨rfl, rfl, rfl, by decide +kernel, rfl, by decide +kernel, by decide +kernel⟩
theorem ok_Task___init__ (T : Txt P K mg a_Task a_u_law_number d_u_law_number a_u_law_turned d_u_law_turned a_u_law_is_integer d_u_law_is_integer a_u_law_is_circuit d_u_law_is_circuit a_are_ways d_are_ways a_is_name d_is_name a_are_kinds d_are_kinds a_Task___init__ d_Task___init__ a_Task_kind_number d_Task_kind_number a_extend_path d_extend_path a_circuits d_circuits a_u_law_pick d_u_law_pick a_u_law_walk d_u_law_walk a_u_law_ways d_u_law_ways a_u_law_name d_u_law_name a_u_law_scale d_u_law_scale a_u_law_kinds d_u_law_kinds a_u_law_row d_u_law_row a_u_law_numbers d_u_law_numbers a_law d_law) : FnOk P w K mg base CX0 3 a_Task___init__ d_Task___init__ ["self", "name", "kinds", "ways"] (spI K a_Task (fn_Task___init__ a_Task)) := by
  have S := sc_Task___init__
  refine fn_okI T.F_Task___init__ S fun cdv A outer s H E hr => ?_
  have hu := hu64 hr
  exact (fb_cons (fs_if (ft_w (fw_or (ft_not (ft_tru (fe_call (ok_is_name T) (hr.mono (by decide)) rfl T.m_is_name T.F_is_name.kp T.B_is_name .nil (fun _ => .nil) (fa_cons (fe_v 1) fa_nil)))) (fw_or1 (ft_not (ft_tru (fe_call (ok_are_kinds T) (hr.mono (by decide)) rfl T.m_are_kinds T.F_are_kinds.kp T.B_are_kinds .nil (fun _ => .nil) (fa_cons (fe_v 2) fa_nil))))))) (fb_one fs_err) fb_nil)
      (fb_cons (fs_if (ft_not (ft_tru (fe_call (ok_are_ways T) (hr.mono (by decide)) rfl T.m_are_ways T.F_are_ways.kp T.B_are_ways .nil (fun _ => .nil) (fa_cons (fe_v 3) (fa_cons (fe_lc (own := [("kind", 4)]) rfl S.nd (fi_seq (fe_v 2)) (blk_of (N := ["self", "name", "kinds", "ways", "kind", "way"]) (sc := (defScope s_Task___init__)) (by decide +kernel) rfl rfl) (fun _ _ _ _ _ => (fg_name (i := 4) S.nd rfl (by first | exact Or.inl rfl | exact Or.inr rfl | exact Or.inr (Or.inl rfl) | exact Or.inr (Or.inr rfl)))) (fun _ _ _ _ _ => fts_nil) (fun _ _ _ _ _ => (fe_ix (fe_v 4) fe_int)) (by intro j hj; exact hj)) fa_nil))))) (fb_one fs_err) fb_nil)
      (fb_cons (fs_fld (i := 0) T.c_Task T.na_Task_name (fe_v 1) rfl (by first | exact Or.inl rfl | exact Or.inr rfl | exact Or.inr (Or.inl rfl) | exact Or.inr (Or.inr rfl)))
      (fb_cons (fs_fld (i := 0) T.c_Task T.na_Task_kinds (fe_callT b_tuple rfl T.b_tuple bt_tuple (fa_cons (fe_lc (own := [("kind", 4)]) rfl S.nd (fi_seq (fe_v 2)) (blk_of (N := ["self", "name", "kinds", "ways", "kind", "way"]) (sc := (defScope s_Task___init__)) (by decide +kernel) rfl rfl) (fun _ _ _ _ _ => (fg_name (i := 4) S.nd rfl (by first | exact Or.inl rfl | exact Or.inr rfl | exact Or.inr (Or.inl rfl) | exact Or.inr (Or.inr rfl)))) (fun _ _ _ _ _ => fts_nil) (fun _ _ _ _ _ => (fe_tup (fa_cons (fe_ix (fe_v 4) fe_int) (fa_cons (fe_ix (fe_v 4) fe_int) (fa_cons (fe_ix (fe_v 4) fe_int) fa_nil))))) (by intro j hj; exact hj)) fa_nil)) rfl (by first | exact Or.inl rfl | exact Or.inr rfl | exact Or.inr (Or.inl rfl) | exact Or.inr (Or.inr rfl)))
      (fb_one (fs_fld (i := 0) T.c_Task T.na_Task_ways (fe_callT b_tuple rfl T.b_tuple bt_tuple (fa_cons (fe_lc (own := [("way", 5)]) rfl S.nd (fi_seq (fe_v 3)) (blk_of (N := ["self", "name", "kinds", "ways", "kind", "way"]) (sc := (defScope s_Task___init__)) (by decide +kernel) rfl rfl) (fun _ _ _ _ _ => (fg_name (i := 5) S.nd rfl (by first | exact Or.inl rfl | exact Or.inr rfl | exact Or.inr (Or.inl rfl) | exact Or.inr (Or.inr rfl)))) (fun _ _ _ _ _ => fts_nil) (fun _ _ _ _ _ => (fe_tup (fa_cons (fe_ix (fe_v 5) fe_int) (fa_cons (fe_ix (fe_v 5) fe_int) (fa_cons (fe_ix (fe_v 5) fe_int) fa_nil))))) (by intro j hj; exact hj)) fa_nil)) rfl (by first | exact Or.inl rfl | exact Or.inr rfl | exact Or.inr (Or.inl rfl) | exact Or.inr (Or.inr rfl))))))))
theorem sc_Task_kind_number : FnScope ["self", "kind_name", "number", "kind"] ["self", "kind_name"] (defScope s_Task_kind_number) := ⟨rfl, rfl, rfl, by decide +kernel, rfl, by decide +kernel, by decide +kernel⟩
theorem ok_Task_kind_number (T : Txt P K mg a_Task a_u_law_number d_u_law_number a_u_law_turned d_u_law_turned a_u_law_is_integer d_u_law_is_integer a_u_law_is_circuit d_u_law_is_circuit a_are_ways d_are_ways a_is_name d_is_name a_are_kinds d_are_kinds a_Task___init__ d_Task___init__ a_Task_kind_number d_Task_kind_number a_extend_path d_extend_path a_circuits d_circuits a_u_law_pick d_u_law_pick a_u_law_walk d_u_law_walk a_u_law_ways d_u_law_ways a_u_law_name d_u_law_name a_u_law_scale d_u_law_scale a_u_law_kinds d_u_law_kinds a_u_law_row d_u_law_row a_u_law_numbers d_u_law_numbers a_law d_law) : FnOk P w K mg base CX0 1 a_Task_kind_number d_Task_kind_number ["self", "kind_name"] (spF K (fn_Task_kind_number a_Task)) := by
  have S := sc_Task_kind_number
  refine fn_ok T.F_Task_kind_number S fun cdv A outer s H E hr => ?_
  have hu := hu64 hr
  exact (fb_cons (fs_for PassesOwn.never rfl (fi_enumT rfl T.b_enumerate (fe_fld T.c_Task T.na_Task_kinds (fe_v 0))) (fg_tup rfl (fgs_cons (fg_name (i := 2) S.nd rfl (by first | exact Or.inl rfl | exact Or.inr rfl | exact Or.inr (Or.inl rfl) | exact Or.inr (Or.inr rfl))) (fgs_cons (fg_name (i := 3) S.nd rfl (by first | exact Or.inl rfl | exact Or.inr rfl | exact Or.inr (Or.inl rfl) | exact Or.inr (Or.inr rfl))) fgs_nil))) (fb_one (fs_if (ft_cmp (o2_eq hu) (fe_ix (fe_v 3) fe_int) (fe_v 1) (by rfl)) (fb_one (fs_ret (fe_v 2))) fb_nil)))
      (fb_one fs_err))
theorem sc_extend_path : FnScope ["task", "start", "last", "path", "visited", "found", "number", "way", "target"] ["task", "start", "last", "path", "visited", "found"] (defScope s_extend_path) := ⟨rfl, rfl, rfl, by decide +kernel, rfl, by decide +kernel, by decide +kernel⟩
theorem ok_extend_path (T : Txt P K mg a_Task a_u_law_number d_u_law_number a_u_law_turned d_u_law_turned a_u_law_is_integer d_u_law_is_integer a_u_law_is_circuit d_u_law_is_circuit a_are_ways d_are_ways a_is_name d_is_name a_are_kinds d_are_kinds a_Task___init__ d_Task___init__ a_Task_kind_number d_Task_kind_number a_extend_path d_extend_path a_circuits d_circuits a_u_law_pick d_u_law_pick a_u_law_walk d_u_law_walk a_u_law_ways d_u_law_ways a_u_law_name d_u_law_name a_u_law_scale d_u_law_scale a_u_law_kinds d_u_law_kinds a_u_law_row d_u_law_row a_u_law_numbers d_u_law_numbers a_law d_law) : ∀ n, FnOk P w K mg base CX0 (n + 1) a_extend_path d_extend_path ["task", "start", "last", "path", "visited", "found"] (spM K 5 (fn_extend_path a_Task n))
  | 0 => fn_ok0M
  | n + 1 => by
    have ok_rec := ok_extend_path T n
    have S := sc_extend_path
    have q : FnOk P w K mg base CX0 (n + 1 + 1) a_extend_path d_extend_path ["task", "start", "last", "path", "visited", "found"] (spM K 5 (fn_extend_path a_Task (n + 1))) := by
      refine fn_okM (k := n + 1) (j := 5) T.F_extend_path S fun cdv A outer s H E hr => ?_
      have hu := hu64 hr
      exact (fb_one (fs_for PassesOwn.never rfl (fi_enumT rfl T.b_enumerate (fe_fld T.c_Task T.na_Task_ways (fe_v 0))) (fg_tup rfl (fgs_cons (fg_name (i := 6) S.nd rfl (by first | exact Or.inl rfl | exact Or.inr rfl | exact Or.inr (Or.inl rfl) | exact Or.inr (Or.inr rfl))) (fgs_cons (fg_name (i := 7) S.nd rfl (by first | exact Or.inl rfl | exact Or.inr rfl | exact Or.inr (Or.inl rfl) | exact Or.inr (Or.inr rfl))) fgs_nil))) (fb_cons (fs_if (ft_cmp (o2_ne hu) (fe_meth (fe_v 0) T.c_Task T.me_Task_kind_number (ok_Task_kind_number T) (hr.mono (by first | decide | omega)) T.B_Task_kind_number .nil (fun _ => .nil) (fa_cons (fe_ix (fe_v 7) fe_int) fa_nil)) (fe_v 2) (by rfl)) (fb_one fs_continue) fb_nil)
      (fb_cons (fs_set (i := 8) (fe_meth (fe_v 0) T.c_Task T.me_Task_kind_number (ok_Task_kind_number T) (hr.mono (by first | decide | omega)) T.B_Task_kind_number .nil (fun _ => .nil) (fa_cons (fe_ix (fe_v 7) fe_int) fa_nil)) S.nd rfl (by first | exact Or.inl rfl | exact Or.inr rfl | exact Or.inr (Or.inl rfl) | exact Or.inr (Or.inr rfl)))
      (fb_one (fs_if (ft_cmp (o2_eq hu) (fe_v 8) (fe_v 1) (by rfl)) (fb_one (fs_appendA (i := 5) rfl (by first | exact Or.inl rfl | exact Or.inr rfl | exact Or.inr (Or.inl rfl) | exact Or.inr (Or.inr rfl)) (fe_add (fe_v 3) (fe_lst (fa_cons (fe_v 6) fa_nil))))) (fb_one (fs_if (ft_w (fw_and (ft_cmp (o2_gt) (fe_v 8) (fe_v 1) (by rfl)) (fw_and1 (ft_cmp (o2_notIn) (fe_v 8) (fe_v 4) (by rfl))))) (fb_one (fs_expr (fe_callM2 (ok_rec) (hr.mono (by omega)) rfl T.m_extend_path T.F_extend_path.kp T.B_extend_path (fa_cons (fe_v 0) (fa_cons (fe_v 1) (fa_cons (fe_v 8) (fa_cons (fe_add (fe_v 3) (fe_lst (fa_cons (fe_v 6) fa_nil))) (fa_cons (fe_add (fe_v 4) (fe_lst (fa_cons (fe_v 8) fa_nil))) (fa_cons (fe_v 5) fa_nil))))))))) fb_nil))))))))
    rw [show n + 1 + 1 = n + 1 + 1 by omega]
    exact q
theorem sc_circuits : FnScope ["task", "found", "start"] ["task"] (defScope s_circuits) := ⟨rfl, rfl, rfl, by decide +kernel, rfl, by decide +kernel, by decide +kernel⟩
theorem ok_circuits (T : Txt P K mg a_Task a_u_law_number d_u_law_number a_u_law_turned d_u_law_turned a_u_law_is_integer d_u_law_is_integer a_u_law_is_circuit d_u_law_is_circuit a_are_ways d_are_ways a_is_name d_is_name a_are_kinds d_are_kinds a_Task___init__ d_Task___init__ a_Task_kind_number d_Task_kind_number a_extend_path d_extend_path a_circuits d_circuits a_u_law_pick d_u_law_pick a_u_law_walk d_u_law_walk a_u_law_ways d_u_law_ways a_u_law_name d_u_law_name a_u_law_scale d_u_law_scale a_u_law_kinds d_u_law_kinds a_u_law_row d_u_law_row a_u_law_numbers d_u_law_numbers a_law d_law) : FnOk P w K mg base CX0 14 a_circuits d_circuits ["task"] (spF K (fn_circuits a_Task)) := by
  have S := sc_circuits
  refine fn_ok T.F_circuits S fun cdv A outer s H E hr => ?_
  have hu := hu64 hr
  exact (fb_cons (fs_set (i := 1) (fe_lst fa_nil) S.nd rfl (by first | exact Or.inl rfl | exact Or.inr rfl | exact Or.inr (Or.inl rfl) | exact Or.inr (Or.inr rfl)))
      (fb_cons (fs_for PassesOwn.never rfl (fi_rng1 rfl T.b_range (fe_callB b_len rfl T.b_len bt_len (fa_cons (fe_fld T.c_Task T.na_Task_kinds (fe_v 0)) fa_nil))) (fg_name (i := 2) S.nd rfl (by first | exact Or.inl rfl | exact Or.inr rfl | exact Or.inr (Or.inl rfl) | exact Or.inr (Or.inr rfl))) (fb_one (fs_expr (fe_callM2 (ok_extend_path T 12) (hr.mono (by decide)) rfl T.m_extend_path T.F_extend_path.kp T.B_extend_path (fa_cons (fe_v 0) (fa_cons (fe_v 2) (fa_cons (fe_v 2) (fa_cons (fe_lst fa_nil) (fa_cons (fe_lst (fa_cons (fe_v 2) fa_nil)) (fa_cons (fe_v 1) fa_nil))))))))))
      (fb_one (fs_ret (fe_v 1)))))
theorem sc_u_law_pick : FnScope ["_law_numbers_here", "_law_at", "_law_count"] ["_law_numbers_here", "_law_at", "_law_count"] (defScope s_u_law_pick) := ⟨rfl, rfl, rfl, by decide +kernel, rfl, by decide +kernel, by decide +kernel⟩
theorem ok_u_law_pick (T : Txt P K mg a_Task a_u_law_number d_u_law_number a_u_law_turned d_u_law_turned a_u_law_is_integer d_u_law_is_integer a_u_law_is_circuit d_u_law_is_circuit a_are_ways d_are_ways a_is_name d_is_name a_are_kinds d_are_kinds a_Task___init__ d_Task___init__ a_Task_kind_number d_Task_kind_number a_extend_path d_extend_path a_circuits d_circuits a_u_law_pick d_u_law_pick a_u_law_walk d_u_law_walk a_u_law_ways d_u_law_ways a_u_law_name d_u_law_name a_u_law_scale d_u_law_scale a_u_law_kinds d_u_law_kinds a_u_law_row d_u_law_row a_u_law_numbers d_u_law_numbers a_law d_law) : FnOk P w K mg base CX0 1 a_u_law_pick d_u_law_pick ["_law_numbers_here", "_law_at", "_law_count"] (spF K (fn_u_law_pick)) := by
  have S := sc_u_law_pick
  refine fn_ok T.F_u_law_pick S fun cdv A outer s H E hr => ?_
  have hu := hu64 hr
  exact (fb_one (fs_ret (fe_op o2_mod (fe_callT b_int rfl T.b_int bt_int (fa_cons (fe_ix (fe_v 0) (fe_v 1)) fa_nil)) (fe_v 2))))
theorem sc_u_law_walk : FnScope ["_law_numbers_here", "_law_at", "_law_kinds_here", "_law_ways_here", "_law_names", "_law_path", "_law_k", "_law_choices", "_law_target", "_law_number_here"] ["_law_numbers_here", "_law_at", "_law_kinds_here", "_law_ways_here"] (defScope s_u_law_walk) := ⟨rfl, rfl, rfl, by decide +kernel, rfl, by decide +kernel, by decide +kernel⟩
theorem ok_u_law_walk (T : Txt P K mg a_Task a_u_law_number d_u_law_number a_u_law_turned d_u_law_turned a_u_law_is_integer d_u_law_is_integer a_u_law_is_circuit d_u_law_is_circuit a_are_ways d_are_ways a_is_name d_is_name a_are_kinds d_are_kinds a_Task___init__ d_Task___init__ a_Task_kind_number d_Task_kind_number a_extend_path d_extend_path a_circuits d_circuits a_u_law_pick d_u_law_pick a_u_law_walk d_u_law_walk a_u_law_ways d_u_law_ways a_u_law_name d_u_law_name a_u_law_scale d_u_law_scale a_u_law_kinds d_u_law_kinds a_u_law_row d_u_law_row a_u_law_numbers d_u_law_numbers a_law d_law) : FnOk P w K mg base CX0 2 a_u_law_walk d_u_law_walk ["_law_numbers_here", "_law_at", "_law_kinds_here", "_law_ways_here"] (spF K (fn_u_law_walk)) := by
  have S := sc_u_law_walk
  refine fn_ok T.F_u_law_walk S fun cdv A outer s H E hr => ?_
  have hu := hu64 hr
  exact (fb_cons (fs_set (i := 4) (fe_lst (fa_cons (fe_ix (fe_ix (fe_v 2) (fe_call (ok_u_law_pick T) (hr.mono (by decide)) rfl T.m_u_law_pick T.F_u_law_pick.kp T.B_u_law_pick .nil (fun _ => .nil) (fa_cons (fe_v 0) (fa_cons (fe_v 1) (fa_cons (fe_callB b_len rfl T.b_len bt_len (fa_cons (fe_v 2) fa_nil)) fa_nil))))) fe_int) fa_nil)) S.nd rfl (by first | exact Or.inl rfl | exact Or.inr rfl | exact Or.inr (Or.inl rfl) | exact Or.inr (Or.inr rfl)))
      (fb_cons (fs_set (i := 5) (fe_lst fa_nil) S.nd rfl (by first | exact Or.inl rfl | exact Or.inr rfl | exact Or.inr (Or.inl rfl) | exact Or.inr (Or.inr rfl)))
      (fb_cons (fs_for PassesOwn.never rfl (fi_rng1 rfl T.b_range fe_int) (fg_name (i := 6) S.nd rfl (by first | exact Or.inl rfl | exact Or.inr rfl | exact Or.inr (Or.inl rfl) | exact Or.inr (Or.inr rfl))) (fb_cons (fs_setLc (i := 7) (own := [("_law_number_here", 9)]) rfl S.nd rfl rfl rfl (fi_rng1 rfl T.b_range (fe_callB b_len rfl T.b_len bt_len (fa_cons (fe_v 3) fa_nil))) (blk_of (N := ["_law_numbers_here", "_law_at", "_law_kinds_here", "_law_ways_here", "_law_names", "_law_path", "_law_k", "_law_choices", "_law_target", "_law_number_here"]) (sc := (defScope s_u_law_walk)) (by decide +kernel) rfl rfl) (fun _ _ _ _ _ => (fg_name (i := 9) S.nd rfl (by first | exact Or.inl rfl | exact Or.inr rfl | exact Or.inr (Or.inl rfl) | exact Or.inr (Or.inr rfl)))) (fun _ _ _ _ _ => (fts_one (ft_cmp (o2_eq hu) (fe_ix (fe_ix (fe_v 3) (fe_v 9)) fe_int) (fe_ix (fe_v 4) (fe_neg fe_int)) (by rfl)))) (fun _ _ _ _ _ => (fe_v 9)) (by intro j hj; exact hj))
      (fb_cons (fs_if (ft_cmp (o2_eq hu) (fe_callB b_len rfl T.b_len bt_len (fa_cons (fe_v 7) fa_nil)) fe_int (by rfl)) (fb_one (fs_ret (fe_lst fa_nil))) fb_nil)
      (fb_cons (fs_append (i := 5) rfl (by first | exact Or.inl rfl | exact Or.inr rfl | exact Or.inr (Or.inl rfl) | exact Or.inr (Or.inr rfl)) (fe_ix (fe_v 7) (fe_call (ok_u_law_pick T) (hr.mono (by decide)) rfl T.m_u_law_pick T.F_u_law_pick.kp T.B_u_law_pick .nil (fun _ => .nil) (fa_cons (fe_v 0) (fa_cons (fe_add (fe_add (fe_v 1) fe_int) (fe_v 6)) (fa_cons (fe_callB b_len rfl T.b_len bt_len (fa_cons (fe_v 7) fa_nil)) fa_nil))))))
      (fb_cons (fs_set (i := 8) (fe_ix (fe_ix (fe_v 3) (fe_ix (fe_v 5) (fe_neg fe_int))) fe_int) S.nd rfl (by first | exact Or.inl rfl | exact Or.inr rfl | exact Or.inr (Or.inl rfl) | exact Or.inr (Or.inr rfl)))
      (fb_cons (fs_if (ft_cmp (o2_in) (fe_v 8) (fe_v 4) (by rfl)) (fb_one (fs_ret (fe_slice (fe_v 5) (fo_some (fe_index (fe_v 4) (fe_v 8))) fo_none))) fb_nil)
      (fb_one (fs_append (i := 4) rfl (by first | exact Or.inl rfl | exact Or.inr rfl | exact Or.inr (Or.inl rfl) | exact Or.inr (Or.inr rfl)) (fe_v 8)))))))))
      (fb_one (fs_ret (fe_lst fa_nil))))))
theorem sc_u_law_ways : FnScope ["_law_numbers_here", "_law_at", "_law_kinds_here", "_law_most", "_law_ways_here", "_law_k", "_law_source", "_law_target"] ["_law_numbers_here", "_law_at", "_law_kinds_here", "_law_most"] (defScope s_u_law_ways) := ⟨rfl, rfl, rfl, by decide +kernel, rfl, by decide +kernel, by decide +kernel⟩
theorem ok_u_law_ways (T : Txt P K mg a_Task a_u_law_number d_u_law_number a_u_law_turned d_u_law_turned a_u_law_is_integer d_u_law_is_integer a_u_law_is_circuit d_u_law_is_circuit a_are_ways d_are_ways a_is_name d_is_name a_are_kinds d_are_kinds a_Task___init__ d_Task___init__ a_Task_kind_number d_Task_kind_number a_extend_path d_extend_path a_circuits d_circuits a_u_law_pick d_u_law_pick a_u_law_walk d_u_law_walk a_u_law_ways d_u_law_ways a_u_law_name d_u_law_name a_u_law_scale d_u_law_scale a_u_law_kinds d_u_law_kinds a_u_law_row d_u_law_row a_u_law_numbers d_u_law_numbers a_law d_law) : FnOk P w K mg base CX0 2 a_u_law_ways d_u_law_ways ["_law_numbers_here", "_law_at", "_law_kinds_here", "_law_most"] (spF K (fn_u_law_ways)) := by
  have S := sc_u_law_ways
  refine fn_ok T.F_u_law_ways S fun cdv A outer s H E hr => ?_
  have hu := hu64 hr
  exact (fb_cons (fs_set (i := 4) (fe_lst fa_nil) S.nd rfl (by first | exact Or.inl rfl | exact Or.inr rfl | exact Or.inr (Or.inl rfl) | exact Or.inr (Or.inr rfl)))
      (fb_cons (fs_for PassesOwn.never rfl (fi_rng1 rfl T.b_range (fe_call (ok_u_law_pick T) (hr.mono (by decide)) rfl T.m_u_law_pick T.F_u_law_pick.kp T.B_u_law_pick .nil (fun _ => .nil) (fa_cons (fe_v 0) (fa_cons (fe_v 1) (fa_cons (fe_add (fe_v 3) fe_int) fa_nil))))) (fg_name (i := 5) S.nd rfl (by first | exact Or.inl rfl | exact Or.inr rfl | exact Or.inr (Or.inl rfl) | exact Or.inr (Or.inr rfl))) (fb_cons (fs_set (i := 6) (fe_ix (fe_ix (fe_v 2) (fe_call (ok_u_law_pick T) (hr.mono (by decide)) rfl T.m_u_law_pick T.F_u_law_pick.kp T.B_u_law_pick .nil (fun _ => .nil) (fa_cons (fe_v 0) (fa_cons (fe_add (fe_add (fe_v 1) fe_int) (fe_mul fe_int (fe_v 5))) (fa_cons (fe_callB b_len rfl T.b_len bt_len (fa_cons (fe_v 2) fa_nil)) fa_nil))))) fe_int) S.nd rfl (by first | exact Or.inl rfl | exact Or.inr rfl | exact Or.inr (Or.inl rfl) | exact Or.inr (Or.inr rfl)))
      (fb_cons (fs_set (i := 7) (fe_ix (fe_ix (fe_v 2) (fe_call (ok_u_law_pick T) (hr.mono (by decide)) rfl T.m_u_law_pick T.F_u_law_pick.kp T.B_u_law_pick .nil (fun _ => .nil) (fa_cons (fe_v 0) (fa_cons (fe_add (fe_add (fe_v 1) fe_int) (fe_mul fe_int (fe_v 5))) (fa_cons (fe_callB b_len rfl T.b_len bt_len (fa_cons (fe_v 2) fa_nil)) fa_nil))))) fe_int) S.nd rfl (by first | exact Or.inl rfl | exact Or.inr rfl | exact Or.inr (Or.inl rfl) | exact Or.inr (Or.inr rfl)))
      (fb_one (fs_append (i := 4) rfl (by first | exact Or.inl rfl | exact Or.inr rfl | exact Or.inr (Or.inl rfl) | exact Or.inr (Or.inr rfl)) (fe_tup (fa_cons (fe_v 6) (fa_cons (fe_v 7) (fa_cons (fe_add fe_int (fe_call (ok_u_law_pick T) (hr.mono (by decide)) rfl T.m_u_law_pick T.F_u_law_pick.kp T.B_u_law_pick .nil (fun _ => .nil) (fa_cons (fe_v 0) (fa_cons (fe_add (fe_add (fe_v 1) fe_int) (fe_mul fe_int (fe_v 5))) (fa_cons fe_int fa_nil))))) fa_nil)))))))))
      (fb_one (fs_ret (fe_v 4)))))
theorem sc_u_law_name : FnScope ["_law_numbers_here", "_law_k", "_law_chars", "_law_seed", "_law_word", "_law_cut", "_law_j"] ["_law_numbers_here", "_law_k"] (defScope s_u_law_name) := ⟨rfl, rfl, rfl, by decide +kernel, rfl, by decide +kernel, by decide +kernel⟩
theorem ok_u_law_name (T : Txt P K mg a_Task a_u_law_number d_u_law_number a_u_law_turned d_u_law_turned a_u_law_is_integer d_u_law_is_integer a_u_law_is_circuit d_u_law_is_circuit a_are_ways d_are_ways a_is_name d_is_name a_are_kinds d_are_kinds a_Task___init__ d_Task___init__ a_Task_kind_number d_Task_kind_number a_extend_path d_extend_path a_circuits d_circuits a_u_law_pick d_u_law_pick a_u_law_walk d_u_law_walk a_u_law_ways d_u_law_ways a_u_law_name d_u_law_name a_u_law_scale d_u_law_scale a_u_law_kinds d_u_law_kinds a_u_law_row d_u_law_row a_u_law_numbers d_u_law_numbers a_law d_law) : FnOk P w K mg base CX0 1 a_u_law_name d_u_law_name ["_law_numbers_here", "_law_k"] (spF K (fn_u_law_name)) := by
  have S := sc_u_law_name
  refine fn_ok T.F_u_law_name S fun cdv A outer s H E hr => ?_
  have hu := hu64 hr
  exact (fb_cons (fs_set (i := 2) fe_str S.nd rfl (by first | exact Or.inl rfl | exact Or.inr rfl | exact Or.inr (Or.inl rfl) | exact Or.inr (Or.inr rfl)))
      (fb_cons (fs_set (i := 3) (fe_callT b_int rfl T.b_int bt_int (fa_cons (fe_ix (fe_v 0) (fe_op o2_sub (fe_callB b_len rfl T.b_len bt_len (fa_cons (fe_v 0) fa_nil)) fe_int)) fa_nil)) S.nd rfl (by first | exact Or.inl rfl | exact Or.inr rfl | exact Or.inr (Or.inl rfl) | exact Or.inr (Or.inr rfl)))
      (fb_cons (fs_set (i := 4) (fe_join fe_str (fe_lc (own := [("_law_j", 6)]) rfl S.nd (fi_rng1 rfl T.b_range (fe_op o2_mod (fe_callT b_int rfl T.b_int bt_int (fa_cons (fe_v 3) fa_nil)) fe_int)) (blk_of (N := ["_law_numbers_here", "_law_k", "_law_chars", "_law_seed", "_law_word", "_law_cut", "_law_j"]) (sc := (defScope s_u_law_name)) (by decide +kernel) rfl rfl) (fun _ _ _ _ _ => (fg_name (i := 6) S.nd rfl (by first | exact Or.inl rfl | exact Or.inr rfl | exact Or.inr (Or.inl rfl) | exact Or.inr (Or.inr rfl)))) (fun _ _ _ _ _ => fts_nil) (fun _ _ _ _ _ => (fe_ix (fe_v 2) (fe_op o2_mod (fe_callT b_int rfl T.b_int bt_int (fa_cons (fe_add (fe_add (fe_op o2_div (fe_v 3) fe_int) (fe_mul fe_int (fe_v 6))) (fe_mul (fe_v 3) (fe_v 6))) fa_nil)) fe_int))) (by intro j hj; exact hj))) S.nd rfl (by first | exact Or.inl rfl | exact Or.inr rfl | exact Or.inr (Or.inl rfl) | exact Or.inr (Or.inr rfl)))
      (fb_cons (fs_set (i := 5) (fe_op o2_mod (fe_callT b_int rfl T.b_int bt_int (fa_cons (fe_ix (fe_v 0) (fe_op o2_sub (fe_callB b_len rfl T.b_len bt_len (fa_cons (fe_v 0) fa_nil)) fe_int)) fa_nil)) (fe_add (fe_callB b_len rfl T.b_len bt_len (fa_cons (fe_v 4) fa_nil)) fe_int)) S.nd rfl (by first | exact Or.inl rfl | exact Or.inr rfl | exact Or.inr (Or.inl rfl) | exact Or.inr (Or.inr rfl)))
      (fb_one (fs_ret (fe_add (fe_add (fe_slice (fe_v 4) fo_none (fo_some (fe_v 5))) (fe_ix fe_str (fe_v 1))) (fe_slice (fe_v 4) (fo_some (fe_v 5)) fo_none))))))))
theorem sc_u_law_scale : FnScope ["_law_numbers_here", "_law_last"] ["_law_numbers_here"] (defScope s_u_law_scale) := ⟨rfl, rfl, rfl, by decide +kernel, rfl, by decide +kernel, by decide +kernel⟩
theorem ok_u_law_scale (T : Txt P K mg a_Task a_u_law_number d_u_law_number a_u_law_turned d_u_law_turned a_u_law_is_integer d_u_law_is_integer a_u_law_is_circuit d_u_law_is_circuit a_are_ways d_are_ways a_is_name d_is_name a_are_kinds d_are_kinds a_Task___init__ d_Task___init__ a_Task_kind_number d_Task_kind_number a_extend_path d_extend_path a_circuits d_circuits a_u_law_pick d_u_law_pick a_u_law_walk d_u_law_walk a_u_law_ways d_u_law_ways a_u_law_name d_u_law_name a_u_law_scale d_u_law_scale a_u_law_kinds d_u_law_kinds a_u_law_row d_u_law_row a_u_law_numbers d_u_law_numbers a_law d_law) : FnOk P w K mg base CX0 1 a_u_law_scale d_u_law_scale ["_law_numbers_here"] (spF K (fn_u_law_scale)) := by
  have S := sc_u_law_scale
  refine fn_ok T.F_u_law_scale S fun cdv A outer s H E hr => ?_
  have hu := hu64 hr
  exact (fb_cons (fs_set (i := 1) (fe_callT b_int rfl T.b_int bt_int (fa_cons (fe_ix (fe_v 0) (fe_op o2_sub (fe_callB b_len rfl T.b_len bt_len (fa_cons (fe_v 0) fa_nil)) fe_int)) fa_nil)) S.nd rfl (by first | exact Or.inl rfl | exact Or.inr rfl | exact Or.inr (Or.inl rfl) | exact Or.inr (Or.inr rfl)))
      (fb_one (fs_ret (fe_ix (fe_lst (fa_cons fe_int (fa_cons fe_int (fa_cons (fe_add fe_int (fe_op o2_mod (fe_callT b_int rfl T.b_int bt_int (fa_cons (fe_op o2_div (fe_v 1) fe_int) fa_nil)) fe_int)) fa_nil)))) (fe_op o2_mod (fe_callT b_int rfl T.b_int bt_int (fa_cons (fe_v 1) fa_nil)) fe_int)))))
theorem sc_u_law_kinds : FnScope ["_law_numbers_here", "_law_at", "_law_most", "_law_kinds_here", "_law_k", "_law_cost"] ["_law_numbers_here", "_law_at", "_law_most"] (defScope s_u_law_kinds) := ⟨rfl, rfl, rfl, by decide +kernel, rfl, by decide +kernel, by decide +kernel⟩
theorem ok_u_law_kinds (T : Txt P K mg a_Task a_u_law_number d_u_law_number a_u_law_turned d_u_law_turned a_u_law_is_integer d_u_law_is_integer a_u_law_is_circuit d_u_law_is_circuit a_are_ways d_are_ways a_is_name d_is_name a_are_kinds d_are_kinds a_Task___init__ d_Task___init__ a_Task_kind_number d_Task_kind_number a_extend_path d_extend_path a_circuits d_circuits a_u_law_pick d_u_law_pick a_u_law_walk d_u_law_walk a_u_law_ways d_u_law_ways a_u_law_name d_u_law_name a_u_law_scale d_u_law_scale a_u_law_kinds d_u_law_kinds a_u_law_row d_u_law_row a_u_law_numbers d_u_law_numbers a_law d_law) : FnOk P w K mg base CX0 2 a_u_law_kinds d_u_law_kinds ["_law_numbers_here", "_law_at", "_law_most"] (spF K (fn_u_law_kinds)) := by
  have S := sc_u_law_kinds
  refine fn_ok T.F_u_law_kinds S fun cdv A outer s H E hr => ?_
  have hu := hu64 hr
  exact (fb_cons (fs_set (i := 3) (fe_lst fa_nil) S.nd rfl (by first | exact Or.inl rfl | exact Or.inr rfl | exact Or.inr (Or.inl rfl) | exact Or.inr (Or.inr rfl)))
      (fb_cons (fs_for PassesOwn.never rfl (fi_rng1 rfl T.b_range (fe_add fe_int (fe_call (ok_u_law_pick T) (hr.mono (by decide)) rfl T.m_u_law_pick T.F_u_law_pick.kp T.B_u_law_pick .nil (fun _ => .nil) (fa_cons (fe_v 0) (fa_cons (fe_v 1) (fa_cons (fe_v 2) fa_nil)))))) (fg_name (i := 4) S.nd rfl (by first | exact Or.inl rfl | exact Or.inr rfl | exact Or.inr (Or.inl rfl) | exact Or.inr (Or.inr rfl))) (fb_cons (fs_set (i := 5) (fe_mul (fe_call (ok_u_law_scale T) (hr.mono (by decide)) rfl T.m_u_law_scale T.F_u_law_scale.kp T.B_u_law_scale .nil (fun _ => .nil) (fa_cons (fe_v 0) fa_nil)) (fe_add fe_int (fe_call (ok_u_law_pick T) (hr.mono (by decide)) rfl T.m_u_law_pick T.F_u_law_pick.kp T.B_u_law_pick .nil (fun _ => .nil) (fa_cons (fe_v 0) (fa_cons (fe_add (fe_add (fe_v 1) fe_int) (fe_mul fe_int (fe_v 4))) (fa_cons fe_int fa_nil)))))) S.nd rfl (by first | exact Or.inl rfl | exact Or.inr rfl | exact Or.inr (Or.inl rfl) | exact Or.inr (Or.inr rfl)))
      (fb_one (fs_append (i := 3) rfl (by first | exact Or.inl rfl | exact Or.inr rfl | exact Or.inr (Or.inl rfl) | exact Or.inr (Or.inr rfl)) (fe_tup (fa_cons (fe_call (ok_u_law_name T) (hr.mono (by decide)) rfl T.m_u_law_name T.F_u_law_name.kp T.B_u_law_name .nil (fun _ => .nil) (fa_cons (fe_v 0) (fa_cons (fe_v 4) fa_nil))) (fa_cons (fe_v 5) (fa_cons (fe_add fe_int (fe_call (ok_u_law_pick T) (hr.mono (by decide)) rfl T.m_u_law_pick T.F_u_law_pick.kp T.B_u_law_pick .nil (fun _ => .nil) (fa_cons (fe_v 0) (fa_cons (fe_add (fe_add (fe_v 1) fe_int) (fe_mul fe_int (fe_v 4))) (fa_cons fe_int fa_nil))))) fa_nil))))))))
      (fb_one (fs_ret (fe_v 3)))))
theorem sc_u_law_row : FnScope ["_law_cell", "_law_many", "_law_row_here", "_law_rest", "_law_k", "_law_mixed"] ["_law_cell", "_law_many"] (defScope s_u_law_row) := ⟨rfl, rfl, rfl, by decide +kernel, rfl, by decide +kernel, by decide +kernel⟩
theorem ok_u_law_row (T : Txt P K mg a_Task a_u_law_number d_u_law_number a_u_law_turned d_u_law_turned a_u_law_is_integer d_u_law_is_integer a_u_law_is_circuit d_u_law_is_circuit a_are_ways d_are_ways a_is_name d_is_name a_are_kinds d_are_kinds a_Task___init__ d_Task___init__ a_Task_kind_number d_Task_kind_number a_extend_path d_extend_path a_circuits d_circuits a_u_law_pick d_u_law_pick a_u_law_walk d_u_law_walk a_u_law_ways d_u_law_ways a_u_law_name d_u_law_name a_u_law_scale d_u_law_scale a_u_law_kinds d_u_law_kinds a_u_law_row d_u_law_row a_u_law_numbers d_u_law_numbers a_law d_law) : FnOk P w K mg base CX0 1 a_u_law_row d_u_law_row ["_law_cell", "_law_many"] (spF K (fn_u_law_row)) := by
  have S := sc_u_law_row
  refine fn_ok T.F_u_law_row S fun cdv A outer s H E hr => ?_
  have hu := hu64 hr
  exact (fb_cons (fs_set (i := 2) (fe_lst fa_nil) S.nd rfl (by first | exact Or.inl rfl | exact Or.inr rfl | exact Or.inr (Or.inl rfl) | exact Or.inr (Or.inr rfl)))
      (fb_cons (fs_set (i := 3) (fe_callB b_abs rfl T.b_abs bt_abs (fa_cons (fe_v 0) fa_nil)) S.nd rfl (by first | exact Or.inl rfl | exact Or.inr rfl | exact Or.inr (Or.inl rfl) | exact Or.inr (Or.inr rfl)))
      (fb_cons (fs_for PassesOwn.never rfl (fi_rng1 rfl T.b_range (fe_v 1)) (fg_name (i := 4) S.nd rfl (by first | exact Or.inl rfl | exact Or.inr rfl | exact Or.inr (Or.inl rfl) | exact Or.inr (Or.inr rfl))) (fb_one (fs_if (ft_cmp (o2_ge) (fe_callB b_abs rfl T.b_abs bt_abs (fa_cons (fe_v 0) fa_nil)) (fe_op o2_pow fe_int fe_int) (by rfl)) (fb_cons (fs_append (i := 2) rfl (by first | exact Or.inl rfl | exact Or.inr rfl | exact Or.inr (Or.inl rfl) | exact Or.inr (Or.inr rfl)) (fe_op o2_mod (fe_callT b_int rfl T.b_int bt_int (fa_cons (fe_v 3) fa_nil)) fe_int))
      (fb_one (fs_set (i := 3) (fe_op o2_div (fe_v 3) fe_int) S.nd rfl (by first | exact Or.inl rfl | exact Or.inr rfl | exact Or.inr (Or.inl rfl) | exact Or.inr (Or.inr rfl))))) (fb_cons (fs_set (i := 5) (fe_op o2_mod (fe_callT b_int rfl T.b_int bt_int (fa_cons (fe_add (fe_mul (fe_v 3) fe_int) (fe_mul (fe_add (fe_v 4) fe_int) fe_int)) fa_nil)) fe_int) S.nd rfl (by first | exact Or.inl rfl | exact Or.inr rfl | exact Or.inr (Or.inl rfl) | exact Or.inr (Or.inr rfl)))
      (fb_cons (fs_set (i := 5) (fe_op o2_mod (fe_callT b_int rfl T.b_int bt_int (fa_cons (fe_add (fe_mul (fe_v 5) fe_int) (fe_mul fe_int (fe_add (fe_v 4) fe_int))) fa_nil)) fe_int) S.nd rfl (by first | exact Or.inl rfl | exact Or.inr rfl | exact Or.inr (Or.inl rfl) | exact Or.inr (Or.inr rfl)))
      (fb_one (fs_append (i := 2) rfl (by first | exact Or.inl rfl | exact Or.inr rfl | exact Or.inr (Or.inl rfl) | exact Or.inr (Or.inr rfl)) (fe_op o2_mod (fe_callT b_int rfl T.b_int bt_int (fa_cons (fe_v 5) fa_nil)) fe_int))))))))
      (fb_one (fs_ret (fe_v 2))))))
theorem sc_u_law_numbers : FnScope ["_law_script", "_law_many", "_law_cells", "_law_each", "_law_numbers_here", "_law_cell", "_law_number_here"] ["_law_script", "_law_many"] (defScope s_u_law_numbers) := ⟨rfl, rfl, rfl, by decide +kernel, rfl, by decide +kernel, by decide +kernel⟩
theorem ok_u_law_numbers (T : Txt P K mg a_Task a_u_law_number d_u_law_number a_u_law_turned d_u_law_turned a_u_law_is_integer d_u_law_is_integer a_u_law_is_circuit d_u_law_is_circuit a_are_ways d_are_ways a_is_name d_is_name a_are_kinds d_are_kinds a_Task___init__ d_Task___init__ a_Task_kind_number d_Task_kind_number a_extend_path d_extend_path a_circuits d_circuits a_u_law_pick d_u_law_pick a_u_law_walk d_u_law_walk a_u_law_ways d_u_law_ways a_u_law_name d_u_law_name a_u_law_scale d_u_law_scale a_u_law_kinds d_u_law_kinds a_u_law_row d_u_law_row a_u_law_numbers d_u_law_numbers a_law d_law) : FnOk P w K mg base CX0 2 a_u_law_numbers d_u_law_numbers ["_law_script", "_law_many"] (spF K (fn_u_law_numbers)) := by
  have S := sc_u_law_numbers
  refine fn_ok T.F_u_law_numbers S fun cdv A outer s H E hr => ?_
  have hu := hu64 hr
  exact (fb_cons (fs_set (i := 2) (fe_slice (fe_v 0) fo_none (fo_some fe_int)) S.nd rfl (by first | exact Or.inl rfl | exact Or.inr rfl | exact Or.inr (Or.inl rfl) | exact Or.inr (Or.inr rfl)))
      (fb_cons (fs_set (i := 3) (fe_add fe_int (fe_op o2_div (fe_v 1) (fe_callB (b_max2 rfl) rfl T.b_max bt_max (fa_cons fe_int (fa_cons (fe_callB b_len rfl T.b_len bt_len (fa_cons (fe_v 2) fa_nil)) fa_nil))))) S.nd rfl (by first | exact Or.inl rfl | exact Or.inr rfl | exact Or.inr (Or.inl rfl) | exact Or.inr (Or.inr rfl)))
      (fb_cons (fs_set (i := 4) (fe_lst fa_nil) S.nd rfl (by first | exact Or.inl rfl | exact Or.inr rfl | exact Or.inr (Or.inl rfl) | exact Or.inr (Or.inr rfl)))
      (fb_cons (fs_for PassesOwn.never rfl (fi_seq (fe_v 2)) (fg_name (i := 5) S.nd rfl (by first | exact Or.inl rfl | exact Or.inr rfl | exact Or.inr (Or.inl rfl) | exact Or.inr (Or.inr rfl))) (fb_one (fs_for PassesOwn.never rfl (fi_seq (fe_call (ok_u_law_row T) (hr.mono (by decide)) rfl T.m_u_law_row T.F_u_law_row.kp T.B_u_law_row .nil (fun _ => .nil) (fa_cons (fe_v 5) (fa_cons (fe_v 3) fa_nil)))) (fg_name (i := 6) S.nd rfl (by first | exact Or.inl rfl | exact Or.inr rfl | exact Or.inr (Or.inl rfl) | exact Or.inr (Or.inr rfl))) (fb_one (fs_append (i := 4) rfl (by first | exact Or.inl rfl | exact Or.inr rfl | exact Or.inr (Or.inl rfl) | exact Or.inr (Or.inr rfl)) (fe_v 6))))))
      (fb_cons (fs_while PassesOwn.never (ft_cmp (o2_lt) (fe_callB b_len rfl T.b_len bt_len (fa_cons (fe_v 4) fa_nil)) (fe_v 1) (by rfl)) (fb_one (fs_append (i := 4) rfl (by first | exact Or.inl rfl | exact Or.inr rfl | exact Or.inr (Or.inl rfl) | exact Or.inr (Or.inr rfl)) fe_int)))
      (fb_one (fs_ret (fe_slice (fe_v 4) fo_none (fo_some (fe_v 1))))))))))
theorem sc_law : FnScope ["_law_script", "_law_numbers_here", "_law_kinds_here", "_law_ways_here", "_law_path", "_law_actual", "_law_keys", "_law_circuit", "_law_k"] ["_law_script"] (defScope s_law) := ⟨rfl, rfl, rfl, by decide +kernel, rfl, by decide +kernel, by decide +kernel⟩
theorem ok_law (T : Txt P K mg a_Task a_u_law_number d_u_law_number a_u_law_turned d_u_law_turned a_u_law_is_integer d_u_law_is_integer a_u_law_is_circuit d_u_law_is_circuit a_are_ways d_are_ways a_is_name d_is_name a_are_kinds d_are_kinds a_Task___init__ d_Task___init__ a_Task_kind_number d_Task_kind_number a_extend_path d_extend_path a_circuits d_circuits a_u_law_pick d_u_law_pick a_u_law_walk d_u_law_walk a_u_law_ways d_u_law_ways a_u_law_name d_u_law_name a_u_law_scale d_u_law_scale a_u_law_kinds d_u_law_kinds a_u_law_row d_u_law_row a_u_law_numbers d_u_law_numbers a_law d_law) : FnOk P w K mg base CX0 15 a_law d_law ["_law_script"] (spF K (fn_law a_Task)) := by
  have S := sc_law
  refine fn_ok T.F_law S fun cdv A outer s H E hr => ?_
  have hu := hu64 hr
  exact (fb_cons (fs_set (i := 1) (fe_call (ok_u_law_numbers T) (hr.mono (by decide)) rfl T.m_u_law_numbers T.F_u_law_numbers.kp T.B_u_law_numbers .nil (fun _ => .nil) (fa_cons (fe_v 0) (fa_cons fe_int fa_nil))) S.nd rfl (by first | exact Or.inl rfl | exact Or.inr rfl | exact Or.inr (Or.inl rfl) | exact Or.inr (Or.inr rfl)))
      (fb_cons (fs_set (i := 2) (fe_call (ok_u_law_kinds T) (hr.mono (by decide)) rfl T.m_u_law_kinds T.F_u_law_kinds.kp T.B_u_law_kinds .nil (fun _ => .nil) (fa_cons (fe_v 1) (fa_cons fe_int (fa_cons fe_int fa_nil)))) S.nd rfl (by first | exact Or.inl rfl | exact Or.inr rfl | exact Or.inr (Or.inl rfl) | exact Or.inr (Or.inr rfl)))
      (fb_cons (fs_set (i := 3) (fe_call (ok_u_law_ways T) (hr.mono (by decide)) rfl T.m_u_law_ways T.F_u_law_ways.kp T.B_u_law_ways .nil (fun _ => .nil) (fa_cons (fe_v 1) (fa_cons fe_int (fa_cons (fe_v 2) (fa_cons fe_int fa_nil))))) S.nd rfl (by first | exact Or.inl rfl | exact Or.inr rfl | exact Or.inr (Or.inl rfl) | exact Or.inr (Or.inr rfl)))
      (fb_cons (fs_set (i := 4) (fe_call (ok_u_law_walk T) (hr.mono (by decide)) rfl T.m_u_law_walk T.F_u_law_walk.kp T.B_u_law_walk .nil (fun _ => .nil) (fa_cons (fe_v 1) (fa_cons fe_int (fa_cons (fe_v 2) (fa_cons (fe_v 3) fa_nil))))) S.nd rfl (by first | exact Or.inl rfl | exact Or.inr rfl | exact Or.inr (Or.inl rfl) | exact Or.inr (Or.inr rfl)))
      (fb_cons (fs_set (i := 5) (fe_call (ok_circuits T) (hr.mono (by decide)) rfl T.m_circuits T.F_circuits.kp T.B_circuits .nil (fun _ => .nil) (fa_cons (fe_makeK (ks := ["kinds", "ways"]) (dvs := []) T.M_Task (ok_Task___init__ T) (hr.mono (by decide)) rfl T.m_Task (kbn_all T.F_Task___init__ (n := 2) (ks := ["kinds", "ways"]) (fun _ _ _ _ _ _ us ws hu hw => match us, hu, ws, hw with | [_, _], _, [_, _], _ => rfl)) (fun _ _ _ _ _ => by simp) (fun _ => .nil) (fa_cons fe_str fa_nil) (fk_cons (fe_callT b_list rfl T.b_list bt_list (fa_cons (fe_v 2) fa_nil)) (fk_cons (fe_callT b_list rfl T.b_list bt_list (fa_cons (fe_v 3) fa_nil)) fk_nil)) (len_cons (fun _ _ _ h => len_nil h)) (len_cons (len_cons (fun _ _ _ h => len_nil h)))) fa_nil)) S.nd rfl (by first | exact Or.inl rfl | exact Or.inr rfl | exact Or.inr (Or.inl rfl) | exact Or.inr (Or.inr rfl)))
      (fb_cons (fs_if (ft_not (ft_tru (fe_isi (T := "list") (by decide +kernel) rfl T.b_isinstance (fe_v 5) (pe_ty rfl T.b_list bt_list)))) (fb_one (fs_ret fe_bl)) fb_nil)
      (fb_cons (fs_set (i := 6) (fe_lst fa_nil) S.nd rfl (by first | exact Or.inl rfl | exact Or.inr rfl | exact Or.inr (Or.inl rfl) | exact Or.inr (Or.inr rfl)))
      (fb_cons (fs_for PassesOwn.never rfl (fi_seq (fe_v 5)) (fg_name (i := 7) S.nd rfl (by first | exact Or.inl rfl | exact Or.inr rfl | exact Or.inr (Or.inl rfl) | exact Or.inr (Or.inr rfl))) (fb_cons (fs_if (ft_not (ft_tru (fe_call (ok_u_law_is_circuit T) (hr.mono (by decide)) rfl T.m_u_law_is_circuit T.F_u_law_is_circuit.kp T.B_u_law_is_circuit .nil (fun _ => .nil) (fa_cons (fe_v 2) (fa_cons (fe_v 3) (fa_cons (fe_v 7) fa_nil)))))) (fb_one (fs_ret fe_bl)) fb_nil)
      (fb_one (fs_append (i := 6) rfl (by first | exact Or.inl rfl | exact Or.inr rfl | exact Or.inr (Or.inl rfl) | exact Or.inr (Or.inr rfl)) (fe_tup (fa_cons (fe_call (ok_u_law_number T) (hr.mono (by decide)) rfl T.m_u_law_number T.F_u_law_number.kp T.B_u_law_number .nil (fun _ => .nil) (fa_cons (fe_v 2) (fa_cons (fe_ix (fe_ix (fe_v 3) (fe_ix (fe_v 7) fe_int)) fe_int) fa_nil))) (fa_cons (fe_callT b_list rfl T.b_list bt_list (fa_cons (fe_v 7) fa_nil)) fa_nil)))))))
      (fb_cons (fs_for PassesOwn.never rfl (fi_rng1 rfl T.b_range (fe_op o2_sub (fe_callB b_len rfl T.b_len bt_len (fa_cons (fe_v 6) fa_nil)) fe_int)) (fg_name (i := 8) S.nd rfl (by first | exact Or.inl rfl | exact Or.inr rfl | exact Or.inr (Or.inl rfl) | exact Or.inr (Or.inr rfl))) (fb_one (fs_if (ft_not (ft_cmp (o2_ltD hu) (fe_ix (fe_v 6) (fe_v 8)) (fe_ix (fe_v 6) (fe_add (fe_v 8) fe_int)) (by rfl))) (fb_one (fs_ret fe_bl)) fb_nil)))
      (fb_cons (fs_if (ft_cmp (o2_eq hu) (fe_callB b_len rfl T.b_len bt_len (fa_cons (fe_v 4) fa_nil)) fe_int (by rfl)) (fb_one (fs_ret fe_bl)) fb_nil)
      (fb_one (fs_ret (fe_cmp (o2_inD (hu65 hr)) (fe_call (ok_u_law_turned T) (hr.mono (by decide)) rfl T.m_u_law_turned T.F_u_law_turned.kp T.B_u_law_turned .nil (fun _ => .nil) (fa_cons (fe_v 2) (fa_cons (fe_v 3) (fa_cons (fe_v 4) fa_nil)))) (fe_v 5) (by rfl))))))))))))))
end
end Cl
namespace Cl
open PySem L2 FP
theorem row_ok (cell many : Int) (h0 : 0 ≤ many) (h1 : many ≤ 50000) : ∃ sv, fn_u_law_row [.int cell, .int many] = .ok sv ∧ ∃ ns : List Int, sv = .l (ns.map .int) ∧ ns.length = many.toNat ∧ Num ns := by
  refine run0_wp rfl ?_
  show Endg _ (G_u_law_row [some (.p (.int cell)), some (.p (.int many)), none, none, none, none])
  unfold G_u_law_row
  simp (disch := omega)
  refine endg_bind (forL_wp (fun i ρ => ∃ (ns : List Int) (rest : Int) (a b : Option SV), ρ = [some (.p (.int cell)), some (.p (.int many)), some (.l (ns.map .int)), some (.p (.int rest)), a, b] ∧ 0 ≤ rest ∧ (-(10 ^ 18) < cell → cell < 10 ^ 18 → rest < 10 ^ 18) ∧ ns.length = i ∧ Num ns) ?_ ?_ ?_)
  · exact ⟨[], _, none, none, rfl, by split <;> omega, by split <;> omega, rfl, fun n hn => by simp at hn⟩
  · rintro i d ρ hi ⟨ns, rest, a, b, rfl, g1, g2, g3, g4⟩
    have hil := (List.getElem?_eq_some_iff.mp hi).1
    rw [rngD_len] at hil
    have hd := rngD_get hi
    subst hd
    refine ⟨_, rfl, ?_⟩
    have hl : ns.length < 100000 := by omega
    refine endg_hide fun Q hQ => ?_
    simp (disch := omega) [oPow, hl]
    refine endg_ite (fun hc => ?_) (fun hc => ?_)
    · subst hQ
      exact ⟨ns ++ [rest % 1009], rest / 1009, _, _, by rw [snoc_map], by omega, by omega, by simp [g3], g4.snoc (by omega) (by omega)⟩
    · have hr : rest < 10 ^ 18 := g2 (by split at hc <;> omega) (by split at hc <;> omega)
      try simp (disch := omega) [oPow, hl]
      subst hQ
      exact ⟨ns ++ [_], rest, _, _, by rw [snoc_map], by omega, g2, by simp [g3], g4.snoc (by omega) (by omega)⟩
  · rintro ρ ⟨ns, rest, a, b, rfl, g1, g2, g3, g4⟩
    rw [rngD_len] at g3
    simp
    exact ⟨ns, rfl, g3, g4⟩
theorem numbers_ok (ns : List Int) (many : Int) (hns : ns.length ≤ 63) (h0 : 0 ≤ many) (h1 : many ≤ 1200) : ∃ sv, fn_u_law_numbers [.frz (ns.map .int), .int many] = .ok sv ∧ ∃ ms : List Int, sv = .l (ms.map .int) ∧ ms.length = many.toNat ∧ Num ms := by
  refine run0_wp rfl ?_
  show Endg _ (G_u_law_numbers [some (.p (.frz (ns.map .int))), some (.p (.int many)), none, none, none, none, none])
  unfold G_u_law_numbers
  refine endg_hide fun Q hQ => ?_
  have hdiv : 0 < (if 1 < (ns.take 63).length then ((ns.take 63).length : Int) else 1) := by split <;> omega
  have htl : (ns.take 63) = ns := List.take_of_length_le hns
  simp (disch := omega) [htl]
  generalize he : (1 + many / (if 1 < (ns.length : Int) then (ns.length : Int) else 1)) = each
  have he0 : 0 ≤ each ∧ each ≤ 1201 := by
    subst he
    split
    · have := Int.ediv_nonneg h0 (show (0 : Int) ≤ ns.length by omega)
      have := Int.ediv_le_self (ns.length : Int) h0
      omega
    · simp; omega
  refine endg_bind (forL_wp (fun i ρ => ∃ (ms : List Int) (a b : Option SV), ρ = [some (.p (.frz (ns.map .int))), some (.p (.int many)), some (.p (.lst (ns.map .int))), some (.p (.int each)), some (.l (ms.map .int)), a, b] ∧ ms.length ≤ i * 1201 ∧ Num ms) ⟨[], none, none, rfl, by simp, fun n hn => by simp at hn⟩ ?_ ?_)
  · rintro i d ρ hi ⟨ms, a, b, rfl, g1, g2⟩
    obtain ⟨cell, hi', rfl⟩ := get_map hi
    have hil := (List.getElem?_eq_some_iff.mp hi').1
    obtain ⟨sv, e1, rs, rfl, r1, r2⟩ := row_ok cell each he0.1 (by omega)
    refine ⟨_, rfl, ?_⟩
    refine endg_hide fun Q1 hQ1 => ?_
    simp (disch := omega) [e1]
    refine forL_wp (fun j ρ => ∃ b : Option SV, ρ = [some (.p (.frz (ns.map .int))), some (.p (.int many)), some (.p (.lst (ns.map .int))), some (.p (.int each)), some (.l ((ms ++ rs.take j).map .int)), some (.p (.int cell)), b]) ⟨b, by simp⟩ ?_ ?_
    · rintro j d ρ hj ⟨b, rfl⟩
      obtain ⟨n, hj', rfl⟩ := get_map hj
      refine ⟨_, rfl, ?_⟩
      have hl : (ms ++ rs.take j).length < 100000 := by
        rw [List.length_append, List.length_take]; omega
      have hl' : ms.length + min j rs.length < 100000 := by simpa using hl
      refine endg_hide fun Q2 hQ2 => ?_
      simp [hl']
      subst hQ2
      exact ⟨some (.p (.int n)), by rw [take_snoc hj']; simp⟩
    · rintro ρ ⟨b, rfl⟩
      subst hQ1
      refine ⟨ms ++ rs, some (.p (.int cell)), b, by simp, ?_, g2.app r2⟩
      rw [List.length_append, r1]; omega
  · rintro ρ ⟨ms, a, b, rfl, g1, g2⟩
    simp only [List.length_map] at g1
    refine endg_hide fun Q1 hQ1 => ?_
    simp only [sSeq_ev]
    refine endg_bind (whileL_wp (fun k ρ => ∃ ms : List Int, ρ = [some (.p (.frz (ns.map .int))), some (.p (.int many)), some (.p (.lst (ns.map .int))), some (.p (.int each)), some (.l (ms.map .int)), a, b] ∧ Num ms ∧ k = many.toNat - ms.length ∧ ms.length < 100000) (many.toNat - ms.length) (by unfold FUEL; omega) ⟨ms, rfl, g2, rfl, by omega⟩ ?_)
    rintro k ρ ⟨ms, rfl, g3, g4, g5⟩
    by_cases hc : (ms.length : Int) < many
    · refine .inr ⟨_, k - 1, by simp [hc]; rfl, by omega, ?_⟩
      refine endg_hide fun Q2 hQ2 => ?_
      simp [g5]
      subst hQ2
      exact ⟨ms ++ [0], by rw [snoc_map], g3.snoc (by decide) (by decide), by simp; omega, by simp; omega⟩
    · refine .inl ⟨_, by simp [hc]; rfl, ?_⟩
      simp (disch := omega)
      subst hQ1
      subst hQ
      exact ⟨ms.take many.toNat, by simp (disch := omega), by rw [List.length_take]; omega, g3.take _⟩
/-- a loop; each turn's wish is hidden -/
theorem forL_wpQ {g : D → Rho → Option Rho} {body : Rho → Out} {Q : Out → Prop} {ds : List D} {ρ : Rho} (I : Nat → Rho → Prop) (h0 : I 0 ρ)
    (hs : ∀ i d ρ, ds[i]? = some d → I i ρ → ∃ ρ1, g d ρ = some ρ1 ∧ ∀ Q' : Out → Prop, Q' = (fun o => match o with
      | .nx ρ2 => I (i + 1) ρ2
      | .ct ρ2 => I (i + 1) ρ2
      | .bk ρ2 => Q (.nx ρ2)
      | .err => False
      | .rt r ρ2 => Q (.rt r ρ2)
      | .exc x ρ2 => Q (.exc x ρ2)) → Endg Q' (body ρ1)) (hd : ∀ ρ, I ds.length ρ → Q (.nx ρ)) : Endg Q (forL g body ds ρ) :=
  forL_wp I h0 (fun i d ρ h hi => by
    obtain ⟨ρ1, e1, e2⟩ := hs i d ρ h hi
    exact ⟨ρ1, e1, e2 _ rfl⟩) hd
theorem forL_chkB {i : Nat} {body : Rho → Out} {ρ : Rho} {b0 : Option SV} {Q : Out → Prop} {ds : List D} {f : Rho → Out} (hb : ρ[i]? = some b0) (h : ∀ d, d ∈ ds → body (ρ.set i (some (.p d))) = .nx (ρ.set i (some (.p d)))) (k : ∀ b, Endg Q (f (ρ.set i b))) : Endg Q ((forL (gN i) body ds ρ).bind f) := endg_bind (forL_chk hb h k)
/-- a loop and its rest; what a turn may do is given as rules -/
theorem forB {g : D → Rho → Option Rho} {body : Rho → Out} {Q : Out → Prop} {ds : List D} {ρ : Rho} {f : Rho → Out} (I : Nat → Rho → Prop) (h0 : I 0 ρ)
    (hs : ∀ i d ρ, ds[i]? = some d → I i ρ → ∃ ρ1, g d ρ = some ρ1 ∧ ∀ Q' : Out → Prop, (∀ ρ2, I (i + 1) ρ2 → Q' (.nx ρ2)) → (∀ ρ2, I (i + 1) ρ2 → Q' (.ct ρ2)) → (∀ ρ2, Endg Q (f ρ2) → Q' (.bk ρ2)) → (∀ r ρ2, Q (.rt r ρ2) → Q' (.rt r ρ2)) → Endg Q' (body ρ1))
    (hd : ∀ ρ, I ds.length ρ → Endg Q (f ρ)) : Endg Q ((forL g body ds ρ).bind f) :=
  endg_bind (forL_wp I h0 (fun i d ρ h hi => by
    obtain ⟨ρ1, e1, e2⟩ := hs i d ρ h hi
    exact ⟨ρ1, e1, e2 _ (fun _ h => h) (fun _ h => h) (fun _ h => h) (fun _ _ h => h)⟩) hd)
/-! ## The rest of a body is hidden (simp would unfold it under binders) -/
theorem hide1 {Q : Out → Prop} {s1 t : Rho → Out} {ρ : Rho} (h : ∀ T, T = t → Endg Q ((sSeq s1 T) ρ)) : Endg Q ((sSeq s1 t) ρ) := h t rfl
theorem hide2 {Q : Out → Prop} {s1 s2 t : Rho → Out} {ρ : Rho} (h : ∀ T, T = t → Endg Q ((sSeq s1 (sSeq s2 T)) ρ)) : Endg Q ((sSeq s1 (sSeq s2 t)) ρ) := h t rfl
theorem hide3 {Q : Out → Prop} {s1 s2 s3 t : Rho → Out} {ρ : Rho} (h : ∀ T, T = t → Endg Q ((sSeq s1 (sSeq s2 (sSeq s3 T))) ρ)) : Endg Q ((sSeq s1 (sSeq s2 (sSeq s3 t))) ρ) := h t rfl
theorem hide4 {Q : Out → Prop} {s1 s2 s3 s4 t : Rho → Out} {ρ : Rho} (h : ∀ T, T = t → Endg Q ((sSeq s1 (sSeq s2 (sSeq s3 (sSeq s4 T)))) ρ)) : Endg Q ((sSeq s1 (sSeq s2 (sSeq s3 (sSeq s4 t)))) ρ) := h t rfl
theorem hide5 {Q : Out → Prop} {s1 s2 s3 s4 s5 t : Rho → Out} {ρ : Rho} (h : ∀ T, T = t → Endg Q ((sSeq s1 (sSeq s2 (sSeq s3 (sSeq s4 (sSeq s5 T))))) ρ)) : Endg Q ((sSeq s1 (sSeq s2 (sSeq s3 (sSeq s4 (sSeq s5 t))))) ρ) := h t rfl
theorem hide6 {Q : Out → Prop} {s1 s2 s3 s4 s5 s6 t : Rho → Out} {ρ : Rho} (h : ∀ T, T = t → Endg Q ((sSeq s1 (sSeq s2 (sSeq s3 (sSeq s4 (sSeq s5 (sSeq s6 T)))))) ρ)) : Endg Q ((sSeq s1 (sSeq s2 (sSeq s3 (sSeq s4 (sSeq s5 (sSeq s6 t)))))) ρ) := h t rfl
theorem hide7 {Q : Out → Prop} {s1 s2 s3 s4 s5 s6 s7 t : Rho → Out} {ρ : Rho} (h : ∀ T, T = t → Endg Q ((sSeq s1 (sSeq s2 (sSeq s3 (sSeq s4 (sSeq s5 (sSeq s6 (sSeq s7 T))))))) ρ)) : Endg Q ((sSeq s1 (sSeq s2 (sSeq s3 (sSeq s4 (sSeq s5 (sSeq s6 (sSeq s7 t))))))) ρ) := h t rfl
theorem hide8 {Q : Out → Prop} {s1 s2 s3 s4 s5 s6 s7 s8 t : Rho → Out} {ρ : Rho} (h : ∀ T, T = t → Endg Q ((sSeq s1 (sSeq s2 (sSeq s3 (sSeq s4 (sSeq s5 (sSeq s6 (sSeq s7 (sSeq s8 T)))))))) ρ)) : Endg Q ((sSeq s1 (sSeq s2 (sSeq s3 (sSeq s4 (sSeq s5 (sSeq s6 (sSeq s7 (sSeq s8 t)))))))) ρ) := h t rfl
theorem hide9 {Q : Out → Prop} {s1 s2 s3 s4 s5 s6 s7 s8 s9 t : Rho → Out} {ρ : Rho} (h : ∀ T, T = t → Endg Q ((sSeq s1 (sSeq s2 (sSeq s3 (sSeq s4 (sSeq s5 (sSeq s6 (sSeq s7 (sSeq s8 (sSeq s9 T))))))))) ρ)) : Endg Q ((sSeq s1 (sSeq s2 (sSeq s3 (sSeq s4 (sSeq s5 (sSeq s6 (sSeq s7 (sSeq s8 (sSeq s9 t))))))))) ρ) := h t rfl
theorem hide10 {Q : Out → Prop} {s1 s2 s3 s4 s5 s6 s7 s8 s9 s10 t : Rho → Out} {ρ : Rho} (h : ∀ T, T = t → Endg Q ((sSeq s1 (sSeq s2 (sSeq s3 (sSeq s4 (sSeq s5 (sSeq s6 (sSeq s7 (sSeq s8 (sSeq s9 (sSeq s10 T)))))))))) ρ)) : Endg Q ((sSeq s1 (sSeq s2 (sSeq s3 (sSeq s4 (sSeq s5 (sSeq s6 (sSeq s7 (sSeq s8 (sSeq s9 (sSeq s10 t)))))))))) ρ) := h t rfl
theorem hide11 {Q : Out → Prop} {s1 s2 s3 s4 s5 s6 s7 s8 s9 s10 s11 t : Rho → Out} {ρ : Rho} (h : ∀ T, T = t → Endg Q ((sSeq s1 (sSeq s2 (sSeq s3 (sSeq s4 (sSeq s5 (sSeq s6 (sSeq s7 (sSeq s8 (sSeq s9 (sSeq s10 (sSeq s11 T))))))))))) ρ)) : Endg Q ((sSeq s1 (sSeq s2 (sSeq s3 (sSeq s4 (sSeq s5 (sSeq s6 (sSeq s7 (sSeq s8 (sSeq s9 (sSeq s10 (sSeq s11 t))))))))))) ρ) := h t rfl
theorem hide12 {Q : Out → Prop} {s1 s2 s3 s4 s5 s6 s7 s8 s9 s10 s11 s12 t : Rho → Out} {ρ : Rho} (h : ∀ T, T = t → Endg Q ((sSeq s1 (sSeq s2 (sSeq s3 (sSeq s4 (sSeq s5 (sSeq s6 (sSeq s7 (sSeq s8 (sSeq s9 (sSeq s10 (sSeq s11 (sSeq s12 T)))))))))))) ρ)) : Endg Q ((sSeq s1 (sSeq s2 (sSeq s3 (sSeq s4 (sSeq s5 (sSeq s6 (sSeq s7 (sSeq s8 (sSeq s9 (sSeq s10 (sSeq s11 (sSeq s12 t)))))))))))) ρ) := h t rfl
/-! ## Tasks -/
def LET : Str := "abcdefghijklmnopqrstuvwxyz0123456789"
def NameOk (s : Str) : Prop := 1 ≤ s.length ∧ s.length ≤ 12 ∧ ∀ c, c ∈ s.cps.toList → c ∈ LET.cps.toList
theorem is_name_ok {s : Str} (h : NameOk s) : ∃ sv, fn_is_name [.str s] = .ok sv ∧ sv = .p (.bl true) := by
  refine run0_wp rfl ?_
  show Endg _ (G_is_name [some (.p (.str s)), none])
  unfold G_is_name
  obtain ⟨h1, h2, h3⟩ := h
  refine endg_hide fun Q hQ => ?_
  have l1 : (1 : Int) ≤ s.length := by omega
  have l2 : (s.length : Int) ≤ 12 := by omega
  simp (disch := omega) [l1, l2]
  refine lc_str D.bl (fun _ => true) rfl rfl (by omega) (fun x hx => ⟨_, _, by simp; exact ⟨rfl, rfl⟩, by simp, ?_⟩) ?_
  · have := h3 x hx
    unfold LET at this
    simpa using this
  · have hall : (s.cps.toList.map fun _ => true).all _root_.id = true := by simp
    generalize (s.cps.toList.map fun _ => true) = bs at hall ⊢
    simp [hall]
    subst hQ
    rfl
def kd (k : Str × Int × Int) : D := .tup [.str k.1, .int k.2.1, .int k.2.2]
def wd (w : Str × Str × Int) : D := .tup [.str w.1, .str w.2.1, .int w.2.2]
def KindsOk (ks : List (Str × Int × Int)) : Prop := 1 ≤ ks.length ∧ ks.length ≤ 8 ∧ (∀ k, k ∈ ks → NameOk k.1 ∧ 1 ≤ k.2.1 ∧ k.2.1 ≤ 1000 ∧ 1 ≤ k.2.2 ∧ k.2.2 ≤ 1000) ∧ (ks.map (·.1)).Nodup
def WaysOk (ks : List (Str × Int × Int)) (ws : List (Str × Str × Int)) : Prop := ws.length ≤ 16 ∧ ∀ w, w ∈ ws → w.1 ∈ ks.map (·.1) ∧ w.2.1 ∈ ks.map (·.1) ∧ 1 ≤ w.2.2 ∧ w.2.2 ≤ 1000
theorem nodup_at {α : Type} {xs : List α} (h : xs.Nodup) {i : Nat} {x : α} (hx : xs[i]? = some x) : ¬ x ∈ xs.take i := by
  intro hm
  obtain ⟨j, hj⟩ := List.mem_iff_getElem?.mp hm
  have hji : j < i := by
    have := (List.getElem?_eq_some_iff.mp hj).1
    rw [List.length_take] at this; omega
  rw [List.getElem?_take_of_lt hji] at hj
  have hjl := (List.getElem?_eq_some_iff.mp hj).1
  have hil := (List.getElem?_eq_some_iff.mp hx).1
  have := (List.getElem?_inj hjl h).mp (hj.trans hx.symm)
  omega
theorem are_kinds_ok {ks : List (Str × Int × Int)} (h : KindsOk ks) : ∃ sv, fn_are_kinds [.lst (ks.map kd)] = .ok sv ∧ sv = .p (.bl true) := by
  refine run0_wp rfl ?_
  show Endg _ (G_are_kinds [some (.p (.lst (ks.map kd))), none, none, none, none])
  unfold G_are_kinds
  obtain ⟨h1, h2, h3, h4⟩ := h
  refine endg_hide fun Q hQ => ?_
  have l1 : (1 : Int) ≤ ks.length := by omega
  have l2 : (ks.length : Int) ≤ 8 := by omega
  simp (disch := omega) [l1, l2]
  refine endg_bind (forL_wp (fun i ρ => ∃ (a b c : Option SV), ρ = [some (.p (.lst (ks.map kd))), some (.l (((ks.map (·.1)).take i).map .str)), a, b, c]) ⟨none, none, none, by simp⟩ ?_ ?_)
  · rintro i d ρ hi ⟨a, b, c, rfl⟩
    obtain ⟨k, hk, rfl⟩ := get_map hi
    obtain ⟨n1, n2, n3, n4, n5⟩ := h3 k (List.mem_of_getElem? hk)
    obtain ⟨_, e1, rfl⟩ := is_name_ok n1
    have hil := (List.getElem?_eq_some_iff.mp hk).1
    have hn : ¬ k.1 ∈ (ks.map (·.1)).take i := nodup_at h4 (by rw [List.getElem?_map, hk]; rfl)
    refine ⟨[some (.p (.lst (ks.map kd))), some (.l (((ks.map (·.1)).take i).map .str)), some (.p (.str k.1)), some (.p (.int k.2.1)), some (.p (.int k.2.2))], by simp [kd], ?_⟩
    refine endg_hide fun Q1 hQ1 => ?_
    have hlen : ((ks.map (·.1)).take i).length < 100000 := by rw [List.length_take]; omega
    have e2 : oIn (.str k.1) (.lst (((ks.map (·.1)).take i).map .str)) = some (.bl false) := by
      rw [oIn_strs]; simp only [hn, decide_false]
    have hlen' : ((((ks.map (·.1)).take i).map D.str)).length < 100000 := by rw [List.length_map]; exact hlen
    generalize hz : ((ks.map (·.1)).take i).map D.str = z at e2 hlen' ⊢
    simp [e1, e2, n2, n3, n4, n5, hlen']
    subst hQ1
    refine ⟨some (.p (.str k.1)), some (.p (.int k.2.1)), some (.p (.int k.2.2)), ?_⟩
    rw [take_snoc (x := k.1) (by rw [List.getElem?_map, hk]; rfl), List.map_append, hz]
    rfl
  · rintro ρ ⟨a, b, c, rfl⟩
    simp
    subst hQ
    rfl
theorem are_ways_ok {ks : List (Str × Int × Int)} {ws : List (Str × Str × Int)} (h : WaysOk ks ws) : ∃ sv, fn_are_ways [.lst (ws.map wd), .lst ((ks.map (·.1)).map .str)] = .ok sv ∧ sv = .p (.bl true) := by
  refine run0_wp rfl ?_
  show Endg _ (G_are_ways [some (.p (.lst (ws.map wd))), some (.p (.lst ((ks.map (·.1)).map .str))), none, none, none])
  unfold G_are_ways
  obtain ⟨h1, h2⟩ := h
  refine endg_hide fun Q hQ => ?_
  have l1 : ¬ (16 : Int) < ws.length := by omega
  generalize hz : (ks.map (·.1)).map D.str = z
  simp [l1]
  refine endg_bind (forL_wp (fun i ρ => ∃ (a b c : Option SV), ρ = [some (.p (.lst (ws.map wd))), some (.p (.lst z)), a, b, c]) ⟨none, none, none, by simp⟩ ?_ ?_)
  · rintro i d ρ hi ⟨a, b, c, rfl⟩
    obtain ⟨w, hw, rfl⟩ := get_map hi
    obtain ⟨n1, n2, n3, n4⟩ := h2 w (List.mem_of_getElem? hw)
    have e1 : oNotIn (.str w.1) (.lst z) = some (.bl false) := by rw [← hz, oNotIn_strs]; simp only [n1, decide_true, Bool.not_true]
    have e2 : oNotIn (.str w.2.1) (.lst z) = some (.bl false) := by rw [← hz, oNotIn_strs]; simp only [n2, decide_true, Bool.not_true]
    refine ⟨[some (.p (.lst (ws.map wd))), some (.p (.lst z)), some (.p (.str w.1)), some (.p (.str w.2.1)), some (.p (.int w.2.2))], by simp [wd], ?_⟩
    refine endg_hide fun Q1 hQ1 => ?_
    simp [e1, e2, n3, n4]
    subst hQ1
    exact ⟨_, _, _, rfl⟩
  · rintro ρ ⟨a, b, c, rfl⟩
    simp
    subst hQ
    rfl
def taskF (name : Str) (ks : List (Str × Int × Int)) (ws : List (Str × Str × Int)) : Fs := [("name", .str name), ("kinds", .tup (ks.map kd)), ("ways", .tup (ws.map wd))]
theorem lf_kd {ks : List (Str × Int × Int)} : lfL (ks.map kd) = true := lfL_map fun _ _ => rfl
theorem lf_wd {ks : List (Str × Str × Int)} : lfL (ks.map wd) = true := lfL_map fun _ _ => rfl
theorem ixT {xs : List D} {i : Int} {d : D} {ρ : Rho} (h : atI xs i = some d) : ixR (.tup xs) i ρ = .ok (.d d) ρ := by
  unfold ixR; simp [h]
theorem k1k2 : ¬ (("name" : Str) = "kinds") := by decide +kernel
theorem k1k3 : ¬ (("name" : Str) = "ways") := by decide +kernel
theorem k2k3 : ¬ (("kinds" : Str) = "ways") := by decide +kernel
set_option maxHeartbeats 0 in
theorem task_init {a_Task : Addr} (p : Addr) {name : Str} {ks : List (Str × Int × Int)} {ws : List (Str × Str × Int)} (hn : NameOk name) (hk : KindsOk ks) (hw : WaysOk ks ws) :
    fn_Task___init__ a_Task p [.str name, .lst (ks.map kd), .lst (ws.map wd)] = some (taskF name ks ws) := by
  refine runI_wp rfl ?_
  show Endg _ (G_Task___init__ a_Task [some (.s p a_Task []), some (.p (.str name)), some (.p (.lst (ks.map kd))), some (.p (.lst (ws.map wd))), none, none])
  unfold G_Task___init__
  refine endg_hide fun Q hQ => ?_
  obtain ⟨_, e1, rfl⟩ := is_name_ok hn
  obtain ⟨_, e2, rfl⟩ := are_kinds_ok hk
  obtain ⟨_, e3, rfl⟩ := are_ways_ok hw
  obtain ⟨k1, k2, _⟩ := id hk
  obtain ⟨w1, _⟩ := id hw
  generalize hK : ks.map kd = K at e2 e3 ⊢
  generalize hW : ws.map wd = W at e3 ⊢
  simp [e1, e2]
  subst hK
  refine lc_seq (ex := kd) D.str (fun k => k.1) rfl rfl rfl (by omega) (fun k hk => ⟨_, _, by simp [kd, ixT (show atI [D.str k.1, .int k.2.1, .int k.2.2] 0 = some (.str k.1) from rfl)]; exact ⟨rfl, rfl⟩, by simp, by simp⟩) ?_
  rw [show (fun k : Str × Int × Int => k.1) = (·.1) from rfl]
  simp only [List.map_map] at e3 ⊢
  generalize hK : ks.map kd = K at e3 ⊢
  generalize hN : ks.map (D.str ∘ fun x => x.1) = N at e3 ⊢
  simp [e3]
  subst hK
  refine lc_seq (ex := kd) kd (fun k => k) rfl rfl rfl (by omega) (fun k hk => ⟨_, _, by simp [kd, ixT (show atI [D.str k.1, .int k.2.1, .int k.2.2] 0 = some (.str k.1) from rfl), ixT (show atI [D.str k.1, .int k.2.1, .int k.2.2] 1 = some (.int k.2.1) from rfl), ixT (show atI [D.str k.1, .int k.2.1, .int k.2.2] 2 = some (.int k.2.2) from rfl)]; exact ⟨rfl, rfl⟩, by simp, by simp [kd]⟩) ?_
  rw [List.map_id']
  generalize hK : ks.map kd = K
  simp [k1k2, k1k3, k2k3]
  subst hW
  refine lc_seq (ex := wd) wd (fun k => k) rfl rfl rfl (by omega) (fun k hk => ⟨_, _, by simp [wd, ixT (show atI [D.str k.1, .str k.2.1, .int k.2.2] 0 = some (.str k.1) from rfl), ixT (show atI [D.str k.1, .str k.2.1, .int k.2.2] 1 = some (.str k.2.1) from rfl), ixT (show atI [D.str k.1, .str k.2.1, .int k.2.2] 2 = some (.int k.2.2) from rfl)]; exact ⟨rfl, rfl⟩, by simp, by simp [wd]⟩) ?_
  rw [List.map_id']
  generalize hW : ws.map wd = W
  simp [k1k2, k1k3, k2k3]
  subst hQ
  subst hK
  subst hW
  refine endg_nx ?_
  simp [endI, taskF]
theorem task_new {a_Task : Addr} {name : Str} {ks : List (Str × Int × Int)} {ws : List (Str × Str × Int)} (hn : NameOk name) (hk : KindsOk ks) (hw : WaysOk ks ws) :
    mkF a_Task (fn_Task___init__ a_Task) [.str name, .lst (ks.map kd), .lst (ws.map wd)] = .ok (.i a_Task (taskF name ks ws)) := mkF_ok fun p => task_init p hn hk hw
theorem lf_task {a_Task : Addr} {name : Str} {ks : List (Str × Int × Int)} {ws : List (Str × Str × Int)} : (SV.i a_Task (taskF name ks ws)).lf = true := by
  simp [taskF, lf_kd, lf_wd]
/-! ## Names -/
def LETL : List Nat := LET.cps.toList
theorem LETL_len : LETL.length = 36 := by decide +kernel
theorem LETL_nodup : LETL.Nodup := by decide +kernel
theorem LET_len : LET.length = 36 := by decide +kernel
def letter (i : Nat) : Nat := LETL.getD i 0
theorem letter_mem {i : Nat} (h : i < 36) : letter i ∈ LETL := by
  unfold letter
  rw [List.getD_eq_getElem?_getD, List.getElem?_eq_getElem (by rw [LETL_len]; exact h)]
  exact List.getElem_mem _
theorem letter_inj {i j : Nat} (hi : i < 36) (hj : j < 36) (h : letter i = letter j) : i = j := by
  unfold letter at h
  rw [List.getD_eq_getElem?_getD, List.getD_eq_getElem?_getD, List.getElem?_eq_getElem (by rw [LETL_len]; exact hi), List.getElem?_eq_getElem (by rw [LETL_len]; exact hj)] at h
  exact (List.getElem_inj LETL_nodup).mp h
theorem ix_letter {i : Int} (h0 : 0 ≤ i) (h1 : i < 36) (ρ : Rho) : ixR (.str LET) i ρ = .ok (.d (.str ⟨#[letter i.toNat]⟩)) ρ := by
  refine ixR_str (by rw [LET_len]; omega) ?_
  have hl : i.toNat < LETL.length := by rw [LETL_len]; omega
  have := atI_get (xs := LETL) h0 hl
  rw [show LET.cps.toList = LETL from rfl, this]
  unfold letter
  rw [List.getD_eq_getElem?_getD, List.getElem?_eq_getElem hl]
  rfl
theorem addR_sN {a b : List Nat} (h : a.length + b.length ≤ 100000) (ρ : Rho) : addR (.str (sN a)) (.str (sN b)) ρ = .ok (.d (.str (sN (a ++ b)))) ρ := by
  rw [addR_str (by rw [sN_len, sN_len]; exact h), sN_app]
def nameL (cs : List Nat) (p : Nat) (n : Nat) (i : Nat) : List Nat := cs.take p ++ [letter ((n + 5 * i) % 36)] ++ cs.drop p
theorem nameL_inj {cs : List Nat} {p n i j : Nat} (hi : i < 36) (hj : j < 36) (h : nameL cs p n i = nameL cs p n j) : i = j := by
  unfold nameL at h
  have h2 := List.append_cancel_right h
  have h3 := List.append_cancel_left h2
  have h4 : letter ((n + 5 * i) % 36) = letter ((n + 5 * j) % 36) := by simpa using h3
  have h5 := letter_inj (Nat.mod_lt _ (by decide)) (Nat.mod_lt _ (by decide)) h4
  omega
theorem sum_ones : ∀ cs : List Nat, ((cs.map fun c => (⟨#[c]⟩ : Str)).map (·.length)).sum = cs.length
  | [] => rfl
  | c :: cs => by
    rw [List.map_cons, List.map_cons, List.sum_cons, sum_ones cs, List.length_cons]
    show 1 + _ = _
    omega
theorem isint_ok (n : Int) : fn_u_law_is_integer [.int n] = .ok (.p (.bl true)) := by
  obtain ⟨_, h, rfl⟩ : ∃ sv, fn_u_law_is_integer [.int n] = .ok sv ∧ sv = .p (.bl true) := by
    refine run0_wpQ rfl fun Q hQ => ?_
    show Endg Q (G_u_law_is_integer [some (.p (.int n))])
    unfold G_u_law_is_integer
    simp
    subst hQ; rfl
  exact h
/-! ## Draws (laws k21 .. k60, k84, k89 .. k91) -/
theorem pick_ok (ms : List Int) (i c : Int) (h0 : 0 ≤ i) (h1 : i < ms.length) (hc : 0 < c) : fn_u_law_pick [.lst (ms.map .int), .int i, .int c] = .ok (.p (.int (at0 ms i % c))) := by
  obtain ⟨_, h, rfl⟩ : ∃ sv, fn_u_law_pick [.lst (ms.map .int), .int i, .int c] = .ok sv ∧ sv = .p (.int (at0 ms i % c)) := by
    refine run0_wpQ rfl fun Q hQ => ?_
    show Endg Q (G_u_law_pick [some (.p (.lst (ms.map .int))), some (.p (.int i)), some (.p (.int c))])
    unfold G_u_law_pick
    have ix : ∀ ρ, ixR (.lst (ms.map .int)) i ρ = .ok (.d (.int (at0 ms i))) ρ := fun ρ => ixR_ints h0 h1
    generalize ms.map D.int = MS at ix ⊢
    simp (disch := omega) [ix]
    subst hQ; rfl
  exact h
theorem scale_ok (ms : List Int) (hm : Num ms) (hl : 0 < ms.length) : ∃ sv, fn_u_law_scale [.lst (ms.map .int)] = .ok sv ∧ ∃ s : Int, sv = .p (.int s) ∧ 1 ≤ s ∧ s ≤ 249 := by
  refine run0_wpQ rfl fun Q hQ => ?_
  show Endg Q (G_u_law_scale [some (.p (.lst (ms.map .int))), none])
  unfold G_u_law_scale
  have N := hm.at rfl ((ms.length : Int) - 1) (by omega) (by omega)
  have ix : ∀ ρ, ixR (.lst (ms.map .int)) ((ms.length : Int) - 1) ρ = .ok (.d (.int (at0 ms ((ms.length : Int) - 1)))) ρ := fun ρ => ixR_ints (by omega) (by omega)
  have hL : (ms.map D.int).length = ms.length := List.length_map ..
  generalize at0 ms ((ms.length : Int) - 1) = z at N ix
  generalize ms.map D.int = MS at ix hL ⊢
  rw [← hL] at ix
  simp (disch := omega) [ix]
  rcases (by omega : z % 3 = 0 ∨ z % 3 = 1 ∨ z % 3 = 2) with h | h | h
  · rw [h]
    subst hQ
    exact ⟨1, rfl, by omega, by omega⟩
  · rw [h]
    subst hQ
    exact ⟨1, rfl, by omega, by omega⟩
  · rw [h]
    subst hQ
    exact ⟨1 + z / 3 % 249, rfl, by omega, by omega⟩
/-! ## Names, one place apart -/
def KQL : List Nat := ("kq3zx9" : Str).cps.toList
theorem KQL_len : KQL.length = 6 := by decide +kernel
theorem KQ_len : ("kq3zx9" : Str).length = 6 := by decide +kernel
theorem KQL_nodup : KQL.Nodup := by decide +kernel
theorem KQL_let : ∀ c, c ∈ KQL → c ∈ LETL := by decide +kernel
def kq (k : Nat) : Nat := KQL.getD k 0
theorem kq_mem {k : Nat} (h : k < 6) : kq k ∈ LETL := by
  unfold kq
  rw [List.getD_eq_getElem?_getD, List.getElem?_eq_getElem (by rw [KQL_len]; exact h)]
  exact KQL_let _ (List.getElem_mem _)
theorem kq_inj {i j : Nat} (hi : i < 6) (hj : j < 6) (h : kq i = kq j) : i = j := by
  unfold kq at h
  rw [List.getD_eq_getElem?_getD, List.getD_eq_getElem?_getD, List.getElem?_eq_getElem (by rw [KQL_len]; exact hi), List.getElem?_eq_getElem (by rw [KQL_len]; exact hj)] at h
  exact (List.getElem_inj KQL_nodup).mp h
theorem ix_kq {i : Int} (h0 : 0 ≤ i) (h1 : i < 6) (ρ : Rho) : ixR (.str "kq3zx9") i ρ = .ok (.d (.str ⟨#[kq i.toNat]⟩)) ρ := by
  refine ixR_str (by rw [KQ_len]; omega) ?_
  have hl : i.toNat < KQL.length := by rw [KQL_len]; omega
  have := atI_get (xs := KQL) h0 hl
  rw [show ("kq3zx9" : Str).cps.toList = KQL from rfl, this]
  unfold kq
  rw [List.getD_eq_getElem?_getD, List.getElem?_eq_getElem hl]
  rfl
theorem rng_eq {α : Type} {ys : List α} {n : Nat} {f : Nat → α} (hl : ys.length = n) (h : ∀ (i : Nat) y, ys[i]? = some y → y = f i) : ys = (List.range n).map f := by
  apply List.ext_getElem? fun i => ?_
  by_cases hi : i < n
  · have e := List.getElem?_eq_getElem (l := ys) (i := i) (by omega)
    rw [e, h i _ e]
    simp [hi]
  · rw [List.getElem?_eq_none (by omega), List.getElem?_eq_none (by simp; omega)]
def wordB (z : Int) : List Nat := (List.range (z % 5).toNat).map fun (j : Nat) => letter ((z / 5 + 7 * (j : Int) + z * (j : Int)) % 36).toNat
theorem wordB_len {z : Int} : (wordB z).length = (z % 5).toNat := by simp [wordB]
theorem wordB_mem {z : Int} : ∀ c, c ∈ wordB z → c ∈ LETL := fun c hc => by
  obtain ⟨j, _, rfl⟩ := List.mem_map.mp hc
  exact letter_mem (by omega)
def nmL (cs : List Nat) (p k : Nat) : List Nat := cs.take p ++ [kq k] ++ cs.drop p
def nmB (ms : List Int) (k : Nat) : Str := sN (nmL (wordB (at0 ms ((ms.length : Int) - 2))) (at0 ms ((ms.length : Int) - 3) % ((wordB (at0 ms ((ms.length : Int) - 2))).length + 1)).toNat k)
theorem nmB_ok (ms : List Int) {k : Nat} (hk : k < 6) : NameOk (nmB ms k) := by
  unfold nmB
  have hl := wordB_len (z := at0 ms ((ms.length : Int) - 2))
  have hm := @wordB_mem (at0 ms ((ms.length : Int) - 2))
  generalize wordB (at0 ms ((ms.length : Int) - 2)) = cs at hl hm ⊢
  have h5 : cs.length ≤ 4 := by omega
  generalize (at0 ms ((ms.length : Int) - 3) % ((cs.length : Int) + 1)).toNat = p
  refine ⟨?_, ?_, fun c hc' => ?_⟩
  · rw [sN_len]; unfold nmL; simp; omega
  · rw [sN_len]; unfold nmL; simp; omega
  · rw [sN_toList] at hc'
    unfold nmL at hc'
    rcases List.mem_append.mp hc' with h | h
    · rcases List.mem_append.mp h with h | h
      · exact hm c (List.mem_of_mem_take h)
      · simp at h; subst h
        exact kq_mem hk
    · exact hm c (List.mem_of_mem_drop h)
theorem nmB_inj (ms : List Int) {i j : Nat} (hi : i < 6) (hj : j < 6) (h : nmB ms i = nmB ms j) : i = j := by
  unfold nmB nmL at h
  have h1 := sN_inj h
  have h2 := List.append_cancel_right h1
  have h3 := List.append_cancel_left h2
  exact kq_inj hi hj (by simpa using h3)
set_option maxHeartbeats 0 in
theorem name_ok (ms : List Int) (hm : Num ms) (h3 : 3 ≤ ms.length) (k : Int) (k0 : 0 ≤ k) (k1 : k < 6) : ∃ sv, fn_u_law_name [.lst (ms.map .int), .int k] = .ok sv ∧ sv = .p (.str (nmB ms k.toNat)) := by
  refine run0_wpQ rfl fun Q hQ => ?_
  show Endg Q (G_u_law_name [some (.p (.lst (ms.map .int))), some (.p (.int k)), none, none, none, none, none])
  unfold G_u_law_name
  rw [show (("abcdefghijklmnopqrstuvwxyz0123456789" : Str)) = LET from rfl]
  have N2 := hm.at rfl ((ms.length : Int) - 2) (by omega) (by omega)
  have N3 := hm.at rfl ((ms.length : Int) - 3) (by omega) (by omega)
  have hnm : nmB ms k.toNat = sN (nmL (wordB (at0 ms ((ms.length : Int) - 2))) (at0 ms ((ms.length : Int) - 3) % ((wordB (at0 ms ((ms.length : Int) - 2))).length + 1)).toNat k.toNat) := rfl
  rw [hnm] at hQ
  have ix2 : ∀ ρ, ixR (.lst (ms.map .int)) ((ms.length : Int) - 2) ρ = .ok (.d (.int (at0 ms ((ms.length : Int) - 2)))) ρ := fun ρ => ixR_ints (by omega) (by omega)
  have ix3 : ∀ ρ, ixR (.lst (ms.map .int)) ((ms.length : Int) - 3) ρ = .ok (.d (.int (at0 ms ((ms.length : Int) - 3)))) ρ := fun ρ => ixR_ints (by omega) (by omega)
  have hL : (ms.map D.int).length = ms.length := List.length_map ..
  generalize at0 ms ((ms.length : Int) - 2) = z at N2 ix2 hQ ⊢
  generalize at0 ms ((ms.length : Int) - 3) = y at N3 ix3 hQ ⊢
  generalize ms.map D.int = MS at ix2 ix3 hL ⊢
  rw [← hL] at ix2 ix3
  simp (disch := omega) [eJoin_ev, ix2]
  refine lc_rng1 (fun c => .str ⟨#[c]⟩) (fun i c => c = letter ((z / 5 + 7 * (i : Int) + z * (i : Int)) % 36).toNat) (n := z % 5) (by simp; exact rfl) (by omega) (by omega) (fun i hi => ?_) (fun cs l1 p1 => ?_)
  · have b0 : 0 ≤ (z / 5 + 7 * (i : Int) + z * (i : Int)) % 36 ∧ (z / 5 + 7 * (i : Int) + z * (i : Int)) % 36 < 36 := by omega
    have b1 : 0 ≤ (i : Int) ∧ (i : Int) ≤ 100 := by omega
    refine ⟨_, _, letter ((z / 5 + 7 * (i : Int) + z * (i : Int)) % 36).toNat, by simp (disch := omega) [ix_letter]; exact ⟨rfl, rfl⟩, by simp, by simp, rfl⟩
  have hcs : cs = wordB z := rng_eq l1 p1
  rw [← hcs] at hQ
  have l1' : cs.length ≤ 4 := by omega
  have hs : (cs.map fun c => D.str ⟨#[c]⟩) = (cs.map fun c => (⟨#[c]⟩ : Str)).map D.str := by simp
  have hsum : ((cs.map fun c => (⟨#[c]⟩ : Str)).map (·.length)).sum = cs.length := sum_ones cs
  have hj := @join_sN cs
  rw [hs]
  generalize hcs : (cs.map fun c => (⟨#[c]⟩ : Str)) = ss at hsum hj ⊢
  have hlen : ss.length = cs.length := by rw [← hcs]; simp
  have e0 : (Str.ofString "").length = 0 := by decide +kernel
  have hfin : (ss.map (·.length)).sum + ss.length * (Str.ofString "").length ≤ 100000 := by rw [hsum, e0]; omega
  have hz : (D.lst (ss.map D.str)).items.bind strsD = some ss := by rw [items_lst]; simp
  generalize ss.map D.str = SS at hz ⊢
  simp only [view_own, toD_l, hz, hfin, if_pos, hj]
  have hcl : (sN cs).length ≤ 100000 := by rw [sN_len]; omega
  have hsl : (sN cs).length = cs.length := sN_len
  have pl : 0 ≤ y % ((cs.length : Int) + 1) := Int.emod_nonneg _ (by omega)
  have c1 := cutS_to (l := cs) pl
  have c2 := cutS_from (l := cs) pl
  have e1 := fun ρ => addR_sN (a := cs.take (y % ((cs.length : Int) + 1)).toNat) (b := [kq k.toNat]) (by simp; omega) ρ
  have e2 := fun ρ => addR_sN (a := cs.take (y % ((cs.length : Int) + 1)).toNat ++ [kq k.toNat]) (b := cs.drop (y % ((cs.length : Int) + 1)).toNat) (by simp; omega) ρ
  have hcc : cs.length ≤ 100000 := by omega
  simp (disch := omega) [ix3, hcc, hsl, c1, c2, ix_kq, sN_one, e1, e2, -List.append_assoc]
  subst hQ
  exact endg_ret (by simp [nmL])
/-! ## Kinds and ways as drawn -/
theorem name_eq (ms : List Int) (hm : Num ms) (h3 : 3 ≤ ms.length) (k : Int) (k0 : 0 ≤ k) (k1 : k < 6) : fn_u_law_name [.lst (ms.map .int), .int k] = .ok (.p (.str (nmB ms k.toNat))) := by
  obtain ⟨_, h, rfl⟩ := name_ok ms hm h3 k k0 k1
  exact h
set_option maxHeartbeats 0 in
theorem kinds_ok (ms : List Int) (at_ most : Int) (hm : Num ms) (h3 : 3 ≤ ms.length) (h0 : 0 ≤ at_) (hmost : 1 ≤ most) (hmost6 : most ≤ 6) (h1 : at_ + 1 + 2 * most ≤ ms.length) : ∃ sv, fn_u_law_kinds [.lst (ms.map .int), .int at_, .int most] = .ok sv ∧ ∃ ks : List (Str × Int × Int), sv = .l (ks.map kd) ∧ KindsOk ks ∧ ks.length ≤ most ∧ ∀ k, k ∈ ks → k.2.1 ≤ 996 ∧ k.2.2 ≤ 9 := by
  refine run0_wpQ rfl fun Q hQ => ?_
  show Endg Q (G_u_law_kinds [some (.p (.lst (ms.map .int))), some (.p (.int at_)), some (.p (.int most)), none, none, none])
  unfold G_u_law_kinds
  have N := fun i => hm.at rfl i
  have pk := fun i c h0 h1 hc => pick_ok ms i c h0 h1 hc
  have nm := fun k k0 k1 => name_eq ms hm h3 k k0 k1
  obtain ⟨_, sc, s, rfl, s0, s1⟩ := scale_ok ms hm (by omega)
  have r1 := Int.emod_nonneg (at0 ms at_) (b := most) (by omega)
  have r2 := Int.emod_lt_of_pos (at0 ms at_) (b := most) (by omega)
  generalize hMS : ms.map D.int = MS at pk nm sc ⊢
  simp (disch := omega) [pk]
  refine endg_bind (forL_wp (fun i ρ => ∃ (ks : List (Str × Int × Int)) (a b : Option SV), ks.map (·.1) = (List.range i).map (nmB ms) ∧ (∀ k, k ∈ ks → NameOk k.1 ∧ 1 ≤ k.2.1 ∧ k.2.1 ≤ 996 ∧ 1 ≤ k.2.2 ∧ k.2.2 ≤ 9) ∧
    ρ = [some (.p (.lst MS)), some (.p (.int at_)), some (.p (.int most)), some (.l (ks.map kd)), a, b]) ⟨[], none, none, by simp, by simp, rfl⟩ ?_ ?_)
  · rintro i d ρ hi ⟨ks, a, b, hk, hks, rfl⟩
    have hil := (List.getElem?_eq_some_iff.mp hi).1
    rw [rngD_len] at hil
    have := rngD_get hi
    subst this
    have hlen : (ks.map kd).length < 100000 := by
      have := congrArg List.length hk
      simp at this
      rw [List.length_map]; omega
    have b1 : 0 ≤ at0 ms (at_ + 1 + 2 * i) % 4 ∧ at0 ms (at_ + 1 + 2 * i) % 4 < 4 := by omega
    refine ⟨_, rfl, ?_⟩
    refine endg_hide fun Q1 hQ1 => ?_
    generalize hK : ks.map kd = K at hlen ⊢
    have hc1 : 1 ≤ s * (1 + at0 ms (at_ + 1 + 2 * i) % 4) := by
      have := Int.mul_le_mul s0 (show 1 ≤ 1 + at0 ms (at_ + 1 + 2 * i) % 4 by omega) (by omega) (by omega)
      simpa using this
    have hc2 : s * (1 + at0 ms (at_ + 1 + 2 * i) % 4) ≤ 996 := by
      have := Int.mul_le_mul s1 (show 1 + at0 ms (at_ + 1 + 2 * i) % 4 ≤ 4 by omega) (by omega) (by omega)
      simpa using this
    simp (disch := omega) [pk, sc, nm, hlen]
    subst hQ1
    refine ⟨ks ++ [(nmB ms i, s * (1 + at0 ms (at_ + 1 + 2 * i) % 4), 1 + at0 ms (at_ + 2 + 2 * i) % 9)], _, _, ?_, ?_, by rw [List.map_append, hK]; simp [kd]; exact ⟨rfl, rfl⟩⟩
    · rw [List.map_append, hk, List.range_succ, List.map_append]; rfl
    · intro k hk'
      rcases List.mem_append.mp hk' with h | h
      · exact hks k h
      · simp at h; subst h
        exact ⟨nmB_ok ms (by omega), hc1, hc2, by show 1 ≤ 1 + at0 ms (at_ + 2 + 2 * i) % 9; omega, by show 1 + at0 ms (at_ + 2 + 2 * i) % 9 ≤ 9; omega⟩
  · rintro ρ ⟨ks, a, b, hk, hks, rfl⟩
    rw [rngD_len] at hk
    have hl : ks.length = (1 + at0 ms at_ % most).toNat := by
      have := congrArg List.length hk
      simpa using this
    simp
    subst hQ
    refine ⟨ks, rfl, ⟨by omega, by omega, fun k h => ?_, ?_⟩, by omega, fun k h => ?_⟩
    · obtain ⟨g1, g2, g3, g4, g5⟩ := hks k h
      exact ⟨g1, g2, by omega, g4, by omega⟩
    · rw [hk]
      refine List.pairwise_iff_getElem.mpr fun i j hi2 hj hij he => ?_
      simp at hi2 hj he
      have := nmB_inj ms (by omega) (by omega) he
      omega
    · obtain ⟨g1, g2, g3, g4, g5⟩ := hks k h
      exact ⟨g3, g5⟩
set_option maxHeartbeats 0 in
theorem ways_ok (ms : List Int) (at_ most : Int) (hm : Num ms) (h0 : 0 ≤ at_) (hmost : 0 ≤ most) (hmost6 : most ≤ 16) (h1 : at_ + 1 + 3 * most ≤ ms.length) (ks : List (Str × Int × Int)) (hk : KindsOk ks) : ∃ sv, fn_u_law_ways [.lst (ms.map .int), .int at_, .lst (ks.map kd), .int most] = .ok sv ∧ ∃ ws : List (Str × Str × Int), sv = .l (ws.map wd) ∧ WaysOk ks ws ∧ ws.length ≤ most ∧ ∀ w, w ∈ ws → w.2.2 ≤ 6 := by
  refine run0_wpQ rfl fun Q hQ => ?_
  show Endg Q (G_u_law_ways [some (.p (.lst (ms.map .int))), some (.p (.int at_)), some (.p (.lst (ks.map kd))), some (.p (.int most)), none, none, none, none])
  unfold G_u_law_ways
  have N := fun i => hm.at rfl i
  have pk := fun i c h0 h1 hc => pick_ok ms i c h0 h1 hc
  obtain ⟨k1, k2, _⟩ := id hk
  have ixk : ∀ (i : Int) ρ, 0 ≤ i → i < ks.length → ∃ k, k ∈ ks ∧ ixR (.lst (ks.map kd)) i ρ = .ok (.d (kd k)) ρ ∧ ∀ ρ', ixR (.lst (ks.map kd)) i ρ' = .ok (.d (kd k)) ρ' := fun i ρ h h' => by
    have hl : i.toNat < ks.length := by omega
    exact ⟨ks[i.toNat], List.getElem_mem _, ixR_lst h hl, fun ρ' => ixR_lst h hl⟩
  have hkl : (ks.map kd).length = ks.length := List.length_map ..
  have r1 := Int.emod_nonneg (at0 ms at_) (b := most + 1) (by omega)
  have r2 := Int.emod_lt_of_pos (at0 ms at_) (b := most + 1) (by omega)
  generalize hMS : ms.map D.int = MS at pk ⊢
  generalize hKS : ks.map kd = KS at ixk hkl ⊢
  simp (disch := omega) [pk]
  refine endg_bind (forL_wp (fun i ρ => ∃ (ws : List (Str × Str × Int)) (a b c : Option SV), ws.length = i ∧ (∀ w, w ∈ ws → w.1 ∈ ks.map (·.1) ∧ w.2.1 ∈ ks.map (·.1) ∧ 1 ≤ w.2.2 ∧ w.2.2 ≤ 6) ∧
    ρ = [some (.p (.lst MS)), some (.p (.int at_)), some (.p (.lst KS)), some (.p (.int most)), some (.l (ws.map wd)), a, b, c]) ⟨[], none, none, none, rfl, by simp, rfl⟩ ?_ ?_)
  · rintro i d ρ hi ⟨ws, a, b, c, hw, hws, rfl⟩
    have hil := (List.getElem?_eq_some_iff.mp hi).1
    rw [rngD_len] at hil
    have := rngD_get hi
    subst this
    have r1 := Int.emod_nonneg (at0 ms (at_ + 1 + 3 * i)) (b := ks.length) (by omega)
    have r2 := Int.emod_lt_of_pos (at0 ms (at_ + 1 + 3 * i)) (b := ks.length) (by omega)
    have r3 := Int.emod_nonneg (at0 ms (at_ + 2 + 3 * i)) (b := ks.length) (by omega)
    have r4 := Int.emod_lt_of_pos (at0 ms (at_ + 2 + 3 * i)) (b := ks.length) (by omega)
    obtain ⟨p, p1, _, p2⟩ := ixk _ [] r1 r2
    obtain ⟨q, q1, _, q2⟩ := ixk _ [] r3 r4
    have hlen : (ws.map wd).length < 100000 := by rw [List.length_map]; omega
    refine ⟨_, rfl, ?_⟩
    refine endg_hide fun Q1 hQ1 => ?_
    generalize hW : ws.map wd = Ws at hlen ⊢
    rw [← hkl] at p2 q2 r2 r4
    simp (disch := omega) [pk, p2, q2, kd, hlen]
    subst hQ1
    refine ⟨ws ++ [(p.1, q.1, 1 + at0 ms (at_ + 3 + 3 * i) % 6)], _, _, _, by simp [hw], ?_, by rw [List.map_append, hW]; simp [wd]; exact ⟨rfl, rfl, rfl⟩⟩
    intro w hw'
    rcases List.mem_append.mp hw' with h | h
    · exact hws w h
    · simp at h; subst h
      exact ⟨List.mem_map.mpr ⟨p, p1, rfl⟩, List.mem_map.mpr ⟨q, q1, rfl⟩, by show 1 ≤ 1 + at0 ms (at_ + 3 + 3 * i) % 6; omega, by show 1 + at0 ms (at_ + 3 + 3 * i) % 6 ≤ 6; omega⟩
  · rintro ρ ⟨ws, a, b, c, hw, hws, rfl⟩
    rw [rngD_len] at hw
    simp
    subst hQ
    refine ⟨ws, rfl, ⟨by omega, fun w h => ?_⟩, by omega, fun w h => (hws w h).2.2.2⟩
    obtain ⟨g1, g2, g3, g4⟩ := hws w h
    exact ⟨g1, g2, g3, by omega⟩
/-! ## A kind's number -/
def kix (ks : List (Str × Int × Int)) (s : Str) : Nat := ks.findIdx fun k => decide (k.1 = s)
theorem kix_lt {ks : List (Str × Int × Int)} {s : Str} (h : s ∈ ks.map (·.1)) : kix ks s < ks.length := by
  obtain ⟨k, h1, h2⟩ := List.mem_map.mp h
  exact List.findIdx_lt_length_of_exists ⟨k, h1, by simpa using h2⟩
theorem kix_spec {ks : List (Str × Int × Int)} {s : Str} (h : s ∈ ks.map (·.1)) : (ks[kix ks s]'(kix_lt h)).1 = s := by
  have := List.findIdx_getElem (xs := ks) (p := fun k : Str × Int × Int => decide (k.1 = s)) (w := kix_lt h)
  simp at this
  exact this
theorem kix_of {ks : List (Str × Int × Int)} {s : Str} {i : Nat} {k : Str × Int × Int} (hk : ks[i]? = some k) (hs : k.1 = s) (hno : ∀ (j : Nat) k', j < i → ks[j]? = some k' → ¬ k'.1 = s) : kix ks s = i := by
  have hi := (List.getElem?_eq_some_iff.mp hk).1
  have h : s ∈ ks.map (·.1) := List.mem_map.mpr ⟨k, List.mem_of_getElem? hk, hs⟩
  have h1 := kix_spec h
  have h2 := kix_lt h
  rcases Nat.lt_trichotomy (kix ks s) i with h3 | h3 | h3
  · exact absurd h1 (hno _ _ h3 (List.getElem?_eq_getElem h2))
  · exact h3
  · have := List.not_of_lt_findIdx (xs := ks) (p := fun k : Str × Int × Int => decide (k.1 = s)) (i := i) h3
    have e : ks[i] = k := by
      rw [List.getElem?_eq_getElem hi] at hk; exact Option.some.inj hk
    simp [e, hs] at this
theorem kix_get {ks : List (Str × Int × Int)} (nd : (ks.map (·.1)).Nodup) {i : Nat} {k : Str × Int × Int} (hk : ks[i]? = some k) : kix ks k.1 = i :=
  kix_of hk rfl fun j k' hj hk' e => by
    have := nodup_at nd (i := i) (x := k.1) (by rw [List.getElem?_map, hk]; rfl)
    refine this ?_
    rw [← e]
    exact List.mem_iff_getElem?.mpr ⟨j, by rw [List.getElem?_take_of_lt hj, List.getElem?_map, hk']; rfl⟩
theorem number_ok {ks : List (Str × Int × Int)} {s : Str} (hs : s ∈ ks.map (·.1)) (hl : ks.length ≤ 1000) : fn_u_law_number [.lst (ks.map kd), .str s] = .ok (.p (.int (kix ks s : Nat))) := by
  obtain ⟨_, h, rfl⟩ : ∃ sv, fn_u_law_number [.lst (ks.map kd), .str s] = .ok sv ∧ sv = .p (.int (kix ks s : Nat)) := by
    refine run0_wpQ rfl fun Q hQ => ?_
    show Endg Q (G_u_law_number [some (.p (.lst (ks.map kd))), some (.p (.str s)), none])
    unfold G_u_law_number
    have ix : ∀ (i : Nat) k ρ, ks[i]? = some k → ixR (.lst (ks.map kd)) (i : Int) ρ = .ok (.d (kd k)) ρ := fun i k ρ h => ixR_at h ρ
    have hL : (ks.map kd).length = ks.length := List.length_map ..
    generalize ks.map kd = KS at ix hL ⊢
    simp (disch := omega)
    refine endg_bind (forL_wp (fun i ρ => (∀ (j : Nat) k, j < i → ks[j]? = some k → ¬ k.1 = s) ∧ ∃ a : Option SV, ρ = [some (.p (.lst KS)), some (.p (.str s)), a]) ⟨fun j k hj => absurd hj (Nat.not_lt_zero _), none, rfl⟩ ?_ ?_)
    · rintro i d ρ hi ⟨hno, a, rfl⟩
      have hil := (List.getElem?_eq_some_iff.mp hi).1
      rw [rngD_len] at hil
      have := rngD_get hi
      subst this
      obtain ⟨k, hk⟩ : ∃ k, ks[i]? = some k := ⟨_, List.getElem?_eq_getElem (by omega)⟩
      refine ⟨_, rfl, ?_⟩
      refine endg_hide fun Q1 hQ1 => ?_
      have e0 := fun ρ => ixT (ρ := ρ) (show atI [D.str k.1, .int k.2.1, .int k.2.2] 0 = some (.str k.1) from rfl)
      simp [ix i k _ hk, kd, e0]
      refine endg_ite (fun hc => ?_) (fun hc => ?_)
      · subst hQ1
        subst hQ
        show SV.p (.int (i : Int)) = _
        rw [kix_of hk hc hno]
      · subst hQ1
        refine ⟨fun j k' hj hk2 => ?_, some (.p (.int i)), rfl⟩
        by_cases e : j = i
        · subst e
          rw [hk] at hk2
          cases hk2
          exact hc
        · exact hno j k' (by omega) hk2
    · rintro ρ ⟨hno, a, rfl⟩
      exfalso
      have h2 := kix_lt hs
      rw [rngD_len] at hno
      exact hno _ _ (by omega) (List.getElem?_eq_getElem h2) (kix_spec hs)
  exact h
theorem kind_number_kx {a_Task : Addr} {tf : Fs} {ks : List (Str × Int × Int)} (hk : tf.lookup ("kinds" : Str) = some (.tup (ks.map kd))) {s : Str} (hs : s ∈ ks.map (·.1)) :
    fn_Task_kind_number a_Task [.ins a_Task tf, .str s] = .ok (.p (.int (kix ks s : Nat))) := by
  obtain ⟨_, h, rfl⟩ : ∃ sv, fn_Task_kind_number a_Task [.ins a_Task tf, .str s] = .ok sv ∧ sv = .p (.int (kix ks s : Nat)) := by
    refine run0_wpQ rfl fun Q hQ => ?_
    show Endg Q (G_Task_kind_number a_Task [some (.p (.ins a_Task tf)), some (.p (.str s)), none, none])
    unfold G_Task_kind_number
    simp [hk]
    refine endg_bind (forL_wp (fun i ρ => (∀ (j : Nat) k, j < i → ks[j]? = some k → ¬ k.1 = s) ∧ ∃ a b : Option SV, ρ = [some (.p (.ins a_Task tf)), some (.p (.str s)), a, b]) ⟨fun j k hj => absurd hj (Nat.not_lt_zero _), none, none, rfl⟩ ?_ ?_)
    · rintro i d ρ hi ⟨hno, a, b, rfl⟩
      obtain ⟨e, he, rfl⟩ := enumD_get hi
      obtain ⟨k, hk', rfl⟩ := get_map he
      refine ⟨[some (.p (.ins a_Task tf)), some (.p (.str s)), some (.p (.int ((0 + i : Nat) : Int))), some (.p (kd k))], by simp, ?_⟩
      refine endg_hide fun Q1 hQ1 => ?_
      simp [kd]
      refine endg_ite (fun hc => ?_) (fun hc => ?_)
      · subst hQ1
        subst hQ
        show SV.p (.int (i : Int)) = _
        rw [kix_of hk' hc hno]
      · subst hQ1
        refine ⟨fun j k' hj hk2 => ?_, some (.p (.int i)), some (.p (kd k)), rfl⟩
        by_cases e : j = i
        · subst e
          rw [hk'] at hk2
          cases hk2
          exact hc
        · exact hno j k' (by omega) hk2
    · rintro ρ ⟨hno, a, b, rfl⟩
      exfalso
      have h2 := kix_lt hs
      rw [enumD_len, List.length_map] at hno
      exact hno _ _ (by omega) (List.getElem?_eq_getElem h2) (kix_spec hs)
  exact h
theorem tl_kinds {n : Str} {ks : List (Str × Int × Int)} {ws : List (Str × Str × Int)} : (taskF n ks ws).lookup ("kinds" : Str) = some (.tup (ks.map kd)) := rfl
theorem tl_ways {n : Str} {ks : List (Str × Int × Int)} {ws : List (Str × Str × Int)} : (taskF n ks ws).lookup ("ways" : Str) = some (.tup (ws.map wd)) := rfl
theorem tl_none1 {n : Str} {ks : List (Str × Int × Int)} {ws : List (Str × Str × Int)} : (taskF n ks ws).lookup ("kind_number" : Str) = none := rfl
theorem tl_none2 {n : Str} {ks : List (Str × Int × Int)} {ws : List (Str × Str × Int)} : (taskF n ks ws).lookup ("ways_from" : Str) = none := rfl
def wd2 (w : Str × Str × Int) : D := .tup [.str w.2.1, .int w.2.2]
theorem lf_wd2 {ws : List (Str × Str × Int)} : lfL (ws.map wd2) = true := lfL_map fun _ _ => rfl
/-- what a task's fields hold -/
structure TF (tf : Fs) (ks : List (Str × Int × Int)) (ws : List (Str × Str × Int)) : Prop where
  k : tf.lookup ("kinds" : Str) = some (.tup (ks.map kd))
  w : tf.lookup ("ways" : Str) = some (.tup (ws.map wd))
  n1 : tf.lookup ("kind_number" : Str) = none
  n2 : tf.lookup ("ways_from" : Str) = none
theorem tf_mk {n : Str} {ks : List (Str × Int × Int)} {ws : List (Str × Str × Int)} : TF (taskF n ks ws) ks ws := ⟨rfl, rfl, rfl, rfl⟩
/-! ## A kind by its name -/
def kof (ks : List (Str × Int × Int)) (s : Str) : Str × Int × Int := (ks[kix ks s]?).getD ("", 0, 0)
theorem kof_get {ks : List (Str × Int × Int)} {s : Str} (h : s ∈ ks.map (·.1)) : ks[kix ks s]? = some (kof ks s) := by
  unfold kof
  rw [List.getElem?_eq_getElem (kix_lt h)]; rfl
theorem kof_mem {ks : List (Str × Int × Int)} {s : Str} (h : s ∈ ks.map (·.1)) : kof ks s ∈ ks := List.mem_of_getElem? (kof_get h)
theorem kd_0 {k : Str × Int × Int} (ρ : Rho) : ixR (kd k) 0 ρ = .ok (.d (.str k.1)) ρ := ixT (show atI [D.str k.1, .int k.2.1, .int k.2.2] 0 = some (.str k.1) from rfl)
theorem kd_1 {k : Str × Int × Int} (ρ : Rho) : ixR (kd k) 1 ρ = .ok (.d (.int k.2.1)) ρ := ixT (show atI [D.str k.1, .int k.2.1, .int k.2.2] 1 = some (.int k.2.1) from rfl)
theorem kd_2 {k : Str × Int × Int} (ρ : Rho) : ixR (kd k) 2 ρ = .ok (.d (.int k.2.2)) ρ := ixT (show atI [D.str k.1, .int k.2.1, .int k.2.2] 2 = some (.int k.2.2) from rfl)
theorem wd_0 {w : Str × Str × Int} (ρ : Rho) : ixR (wd w) 0 ρ = .ok (.d (.str w.1)) ρ := ixT (show atI [D.str w.1, .str w.2.1, .int w.2.2] 0 = some (.str w.1) from rfl)
theorem wd_1 {w : Str × Str × Int} (ρ : Rho) : ixR (wd w) 1 ρ = .ok (.d (.str w.2.1)) ρ := ixT (show atI [D.str w.1, .str w.2.1, .int w.2.2] 1 = some (.str w.2.1) from rfl)
theorem wd_2 {w : Str × Str × Int} (ρ : Rho) : ixR (wd w) 2 ρ = .ok (.d (.int w.2.2)) ρ := ixT (show atI [D.str w.1, .str w.2.1, .int w.2.2] 2 = some (.int w.2.2) from rfl)
theorem pr_0 {p q : Int} (ρ : Rho) : ixR (.tup [.int p, .int q]) 0 ρ = .ok (.d (.int p)) ρ := ixT (show atI [D.int p, .int q] 0 = some (.int p) from rfl)
theorem pr_1 {p q : Int} (ρ : Rho) : ixR (.tup [.int p, .int q]) 1 ρ = .ok (.d (.int q)) ρ := ixT (show atI [D.int p, .int q] 1 = some (.int q) from rfl)
def wat (ws : List (Str × Str × Int)) (i : Nat) : Str × Str × Int := (ws[i]?).getD ("", "", 0)
theorem wat_get {ws : List (Str × Str × Int)} {i : Nat} (h : i < ws.length) : ws[i]? = some (wat ws i) := by unfold wat; rw [List.getElem?_eq_getElem h]; rfl
theorem wat_mem {ws : List (Str × Str × Int)} {i : Nat} (h : i < ws.length) : wat ws i ∈ ws := List.mem_of_getElem? (wat_get h)
section
variable {f g k : Rho → Rs RV} {ρ : Rho} {m n : Int}
def rngDR (m n c : Int) (ρ : Rho) : Rs (List D) := if ((-LIM ≤ m ∧ m < LIM) ∧ -LIM ≤ n ∧ n < LIM) ∧ c = -1 then .ok (rngC m (-1) (m - n).toNat) ρ else .err
@[simp] theorem iRngD_ev : iRngD f g k ρ = (f ρ).bind fun r ρ1 => (g ρ1).bind fun q ρ2 => (k ρ2).bind fun u ρ3 => match view ρ3 r, view ρ3 q, view ρ3 u with
  | .int m, .int n, .int c => rngDR m n c ρ3
  | _, _, _ => .err := of_rfl rfl
@[simp] theorem rngDR_ev (h1 : -1152921504606846976 ≤ m) (h2 : m < 1152921504606846976) (h : -1152921504606846976 ≤ n) (h' : n < 1152921504606846976) : rngDR m n (-1) ρ = .ok (rngC m (-1) (m - n).toNat) ρ := by
  unfold rngDR LIM
  rw [if_pos (by omega)]
end
/-! ## Stores into a list -/
section
variable {ρ : Rho} {i : Nat} {a b : Rho → Rs RV} {o : D → D → Option D}
theorem sIdx_ev : sIdx i b a ρ = (a ρ).thn fun r ρ1 => match (frz r ρ1)[i]? with
  | some (some (.l _)) => (b (frz r ρ1)).thn fun q ρ2 => match view ρ2 q, ρ2[i]? with
    | .int k, some (some (.l xs)) => match ixN xs.length k with
      | some j => .nx (ρ2.set i (some (.l (xs.set j (view ρ1 r)))))
      | none => .err
    | _, _ => .err
  | _ => .err := of_rfl rfl
theorem sIdxAug_ev : sIdxAug i o b a ρ = match ρ[i]? with
  | some (some (.l _)) => (b ρ).thn fun q ρ1 => match view ρ1 q, ρ1[i]? with
    | .int k, some (some (.l xs)) => match atI xs k with
      | some d => (a ρ1).thn fun r ρ2 => match o d (view ρ2 r), ρ2[i]? with
        | some d', some (some (.l ys)) => match ixN ys.length k with
          | some j => .nx (ρ2.set i (some (.l (ys.set j d'))))
          | none => .err
        | _, _ => .err
      | none => .err
    | _, _ => .err
  | _ => .err := of_rfl rfl
theorem ixN_in {n : Nat} {k : Int} (h : 0 ≤ k) (h' : k < n) : ixN n k = some k.toNat := by
  unfold ixN
  rw [if_pos h, if_pos (by omega)]
theorem atI_at {α : Type} {el : α → D} {xs : List α} {i : Nat} {x : α} (h : xs[i]? = some x) : atI (xs.map el) (i : Int) = some (el x) := by
  have hl := (List.getElem?_eq_some_iff.mp h).1
  unfold atI
  rw [ixN_in (by omega) (by rw [List.length_map]; omega)]
  simp [h]
theorem range_set {α : Type} {f : Nat → α} {n j : Nat} {v : α} : ((List.range n).map f).set j v = (List.range n).map fun i => if i = j then v else f i := by
  apply List.ext_getElem? fun i => ?_
  by_cases hi : i < n
  · by_cases hj : j = i
    · subst hj
      rw [List.getElem?_set_self (by simpa using hi)]
      simp [hi]
    · rw [List.getElem?_set_ne hj]
      simp [hi, Ne.symm hj]
  · rw [List.getElem?_eq_none (by simp; omega), List.getElem?_eq_none (by simp; omega)]
end
@[simp] theorem tyN_lst {xs : List D} : (D.lst xs).tyN = some "list" := of_rfl rfl
@[simp] theorem tyN_tup {xs : List D} : (D.tup xs).tyN = some "tuple" := of_rfl rfl
@[simp] theorem tyN_str {s : Str} : (D.str s).tyN = some "str" := of_rfl rfl
@[simp] theorem isTy_ll : isTy "list" "list" = true := by decide +kernel
@[simp] theorem isTy_tt : isTy "tuple" "tuple" = true := by decide +kernel
@[simp] theorem isTy_ss : isTy "str" "str" = true := by decide +kernel
/-! ### comprehensions as values -/
theorem rs_of_rt {X : Rs RV} {r : RV} {ρ : Rho} (h : Endg (fun o => o = .rt r ρ) (X.thn fun r ρ => .rt r ρ)) : X = .ok r ρ := by
  cases X with
  | err => cases h
  | exc x ρ' => cases h
  | ok a ρ' => injection (show Out.rt a ρ' = .rt r ρ from h) with h1 h2; rw [h1, h2]
theorem lc_seqE {α β : Type} {ex : α → D} (el : β → D) (fx : α → β) {xs : List α} {a : Rho → Rs RV} {elt : Rho → Rs RV} {v : Nat} {ρ ρ0 ρ1 : Rho} {r : RV} (hs : a ρ = .ok r ρ0) (hi : (view ρ0 r).items = some (xs.map ex)) (hf : frz r ρ0 = ρ1) (hl : xs.length ≤ 100000)
    (hb : ∀ x, x ∈ xs → ∃ ρ3 r', elt ((ρ1.set v none).set v (some (.p (ex x)))) = .ok r' ρ3 ∧ (frz r' ρ3).set v none = ρ1.set v none ∧ view ρ3 r' = el (fx x)) :
    eLc (iSeq a) (gN v) tYesF elt [v] ρ = .ok (.own (.l ((xs.map fx).map el))) ((ρ1.set v none).set v (ρ1[v]?.getD none)) :=
  rs_of_rt (lc_seq el fx hs hi hf hl hb rfl)
theorem lc_rngE {α : Type} (el : α → D) (f : Nat → α) {src : Rho → Rs (List D)} {elt : Rho → Rs RV} {v : Nat} {ρ ρ1 : Rho} {lo : Int} {n : Nat} (hs : src ρ = .ok (rngD lo n) ρ1) (hl : n ≤ 100000)
    (hb : ∀ i : Nat, i < n → ∃ ρ3 r, elt ((ρ1.set v none).set v (some (.p (.int (lo + i))))) = .ok r ρ3 ∧ (frz r ρ3).set v none = ρ1.set v none ∧ view ρ3 r = el (f i)) :
    eLc src (gN v) tYesF elt [v] ρ = .ok (.own (.l (((List.range n).map f).map el))) ((ρ1.set v none).set v (ρ1[v]?.getD none)) :=
  rs_of_rt (lc_rng el (fun i y => y = f i) hs hl (fun i hi => by
    obtain ⟨ρ3, r, q1, q2, q3⟩ := hb i hi
    exact ⟨ρ3, r, f i, q1, q2, q3, rfl⟩) fun ys hyl hy => by
      have : ys = (List.range n).map f := by
        apply List.ext_getElem? fun i => ?_
        by_cases hi : i < n
        · have e := List.getElem?_eq_getElem (l := ys) (i := i) (by omega)
          rw [e, hy i _ e]
          simp [hi]
        · rw [List.getElem?_eq_none (by omega), List.getElem?_eq_none (by simp; omega)]
      rw [this]; rfl)
/-! ## Circuits -/
def pd (p : List Nat) : D := .lst (p.map fun i : Nat => .int i)
/-- what a path is continued to: fuel, start, last, path, visited -/
def ext (ks : List (Str × Int × Int)) (ws : List (Str × Str × Int)) : Nat → Nat → Nat → List Nat → List Nat → List (List Nat)
  | 0, _, _, _, _ => []
  | n + 1, st, la, p, vis => ws.zipIdx.flatMap fun w => if kix ks w.1.1 = la then (if kix ks w.1.2.1 = st then [p ++ [w.2]] else if st < kix ks w.1.2.1 ∧ ¬ kix ks w.1.2.1 ∈ vis then ext ks ws n st (kix ks w.1.2.1) (p ++ [w.2]) (vis ++ [kix ks w.1.2.1]) else []) else []
def circ (ks : List (Str × Int × Int)) (ws : List (Str × Str × Int)) : List (List Nat) := (List.range ks.length).flatMap fun s => ext ks ws ks.length s s [] [s]
def ext1 (ks : List (Str × Int × Int)) (ws : List (Str × Str × Int)) (n st la : Nat) (p vis : List Nat) (w : (Str × Str × Int) × Nat) : List (List Nat) :=
  if kix ks w.1.1 = la then (if kix ks w.1.2.1 = st then [p ++ [w.2]] else if st < kix ks w.1.2.1 ∧ ¬ kix ks w.1.2.1 ∈ vis then ext ks ws n st (kix ks w.1.2.1) (p ++ [w.2]) (vis ++ [kix ks w.1.2.1]) else []) else []
theorem ext_succ {ks : List (Str × Int × Int)} {ws : List (Str × Str × Int)} {n st la : Nat} {p vis : List Nat} : ext ks ws (n + 1) st la p vis = ws.zipIdx.flatMap (ext1 ks ws n st la p vis) := rfl
theorem flats_nats : ∀ {vis : List Nat}, flats (vis.map fun i : Nat => D.int i) = some (vis.map fun i : Nat => V.int i)
  | [] => rfl
  | v :: vis => by
    have := flats_nats (vis := vis)
    simp only [List.map_cons]
    unfold flats
    simp [D.flat, this]
theorem inV_nats {t : Nat} : ∀ {vis : List Nat}, inV (.int t) (vis.map fun i : Nat => V.int i) = decide (t ∈ vis)
  | [] => by simp [inV]
  | v :: vis => by
    have ih := inV_nats (t := t) (vis := vis)
    show (eqV (.int v) (.int t) || inV (.int t) (vis.map fun i : Nat => V.int i)) = _
    rw [ih]
    have e : eqV (.int v) (.int t) = decide (t = v) := by
      show ((v : Int) == (t : Int)) = decide (t = v)
      by_cases h : t = v
      · subst h; simp
      · rw [decide_eq_false h]
        exact beq_eq_false_iff_ne.mpr (by omega)
    rw [e]
    simp
theorem oNotIn_nats {t : Nat} {vis : List Nat} : oNotIn (.int t) (.lst (vis.map fun i : Nat => D.int i)) = some (.bl !(decide (t ∈ vis))) := by
  unfold oNotIn D.inS
  simp [D.items, D.flat, flats_nats, inV_nats]
theorem take_flat {α β : Type} {xs : List α} {f : α → List β} {i : Nat} {x : α} (h : xs[i]? = some x) : (xs.take (i + 1)).flatMap f = (xs.take i).flatMap f ++ f x := by
  rw [take_snoc h, List.flatMap_append]
  simp
theorem flat_take_le {α β : Type} {f : α → List β} : ∀ {xs : List α} {i : Nat}, ((xs.take i).flatMap f).length ≤ (xs.flatMap f).length
  | [], _ => by simp
  | x :: xs, 0 => by simp
  | x :: xs, i + 1 => by
    have := flat_take_le (f := f) (xs := xs) (i := i)
    simp only [List.take_succ_cons, List.flatMap_cons, List.length_append]
    omega

theorem nodup_lt : ∀ {K : Nat} {vis : List Nat}, vis.Nodup → (∀ v, v ∈ vis → v < K) → vis.length ≤ K
  | 0, [], _, _ => Nat.le_refl _
  | 0, v :: vis, _, h => absurd (h v List.mem_cons_self) (Nat.not_lt_zero _)
  | K + 1, vis, nd, h => by
    have e := nodup_lt (K := K) (vis := vis.filter fun v => decide (v ≠ K)) (nd.filter _) (fun v hv => by
      obtain ⟨h1, h2⟩ := List.mem_filter.mp hv
      have := h v h1
      have h3 : v ≠ K := by simpa using h2
      omega)
    have e2 : vis.length ≤ (vis.filter fun v => decide (v ≠ K)).length + 1 := by
      by_cases hm : K ∈ vis
      · have := List.length_erase_of_mem hm
        have e3 : vis.erase K = vis.filter fun v => decide (v ≠ K) := by
          rw [nd.erase_eq_filter]
          refine List.filter_congr fun v _ => ?_
          by_cases hv : v = K <;> simp [hv]
        rw [← e3]; omega
      · have : (vis.filter fun v => decide (v ≠ K)) = vis := List.filter_eq_self.mpr fun v hv => by
          simp; rintro rfl; exact hm hv
        rw [this]; omega
    omega
set_option maxHeartbeats 0 in
theorem extend_ok {a_Task : Addr} {tf : Fs} {ks : List (Str × Int × Int)} {ws : List (Str × Str × Int)} (T : TF tf ks ws) (hk : KindsOk ks) (hw : WaysOk ks ws) : ∀ (n m st la : Nat) (p vis : List Nat) (found : List D), n ≤ m → ks.length + 1 ≤ vis.length + n → vis.Nodup → (∀ v, v ∈ vis → v < ks.length) → p.length ≤ vis.length →
    found.length + (ext ks ws n st la p vis).length < 100000 →
    fn_extend_path a_Task m [.ins a_Task tf, .int st, .int la, pd p, pd vis, .non] found = .ok (.p .non) (found ++ (ext ks ws n st la p vis).map pd)
  | 0, m, st, la, p, vis, found, _, hv, nd, lt, _, _ => by
    have := nodup_lt nd lt
    omega
  | n + 1, 0, _, _, _, _, _, h, _, _, _, _, _ => by omega
  | n + 1, m + 1, st, la, p, vis, found, hm, hv, nd, lt, hp, hl => by
    have hvl := nodup_lt nd lt
    obtain ⟨k1, k2, _, knd⟩ := id hk
    refine fnM_ok rfl fun q Q hQ => ?_
    show Endg Q (G_extend_path a_Task (fn_extend_path a_Task m) [some (.p (.ins a_Task tf)), some (.p (.int st)), some (.p (.int la)), some (.p (pd p)), some (.p (pd vis)), some (.a q found), none, none, none])
    unfold G_extend_path
    have rec_ := extend_ok (a_Task := a_Task) T hk hw n m
    rw [ext_succ] at hl hQ
    generalize hE : ext1 ks ws n st la p vis = E1 at hl hQ
    simp [T.w]
    refine forL_wp (fun i ρ => ∃ a b c : Option SV, ρ = [some (.p (.ins a_Task tf)), some (.p (.int st)), some (.p (.int la)), some (.p (pd p)), some (.p (pd vis)), some (.a q (found ++ ((ws.zipIdx.take i).flatMap E1).map pd)), a, b, c]) ⟨none, none, none, by simp⟩ ?_ ?_
    · rintro i d ρ hi ⟨a, b, c, rfl⟩
      obtain ⟨e, he, rfl⟩ := enumD_get hi
      obtain ⟨w, hw', rfl⟩ := get_map he
      obtain ⟨w1, w2, w3, w4⟩ := hw.2 w (List.mem_of_getElem? hw')
      have hz : ws.zipIdx[i]? = some (w, i) := by rw [List.getElem?_zipIdx, hw']; simp
      have hil := (List.getElem?_eq_some_iff.mp hw').1
      have wl := hw.1
      have e1 := kind_number_kx (a_Task := a_Task) T.k w1
      have e2 := kind_number_kx (a_Task := a_Task) T.k w2
      have tot := flat_take_le (f := E1) (xs := ws.zipIdx) (i := i + 1)
      rw [take_flat hz, List.length_append] at tot
      have fl : (found ++ ((ws.zipIdx.take i).flatMap E1).map pd).length + (E1 (w, i)).length < 100000 := by
        rw [List.length_append, List.length_map]; omega
      have nx : (((ws.zipIdx.take (i + 1)).flatMap E1).map pd) = ((ws.zipIdx.take i).flatMap E1).map pd ++ (E1 (w, i)).map pd := by rw [take_flat hz, List.map_append]
      rw [nx]
      generalize hF : found ++ ((ws.zipIdx.take i).flatMap E1).map pd = F at fl ⊢
      rw [← List.append_assoc, hF]
      have eE : E1 (w, i) = ext1 ks ws n st la p vis (w, i) := by rw [hE]
      rw [eE] at fl ⊢
      unfold ext1 at fl ⊢
      dsimp only at fl ⊢
      refine ⟨[some (.p (.ins a_Task tf)), some (.p (.int st)), some (.p (.int la)), some (.p (pd p)), some (.p (pd vis)), some (.a q F), some (.p (.int ((0 + i : Nat) : Int))), some (.p (wd w)), c], by simp, ?_⟩
      refine endg_hide fun Q1 hQ1 => ?_
      by_cases c1 : kix ks w.1 = la
      · rw [if_pos c1] at fl hQ1
        have c1' : ((kix ks w.1 : Nat) : Int) = (la : Int) := by omega
        by_cases c2 : kix ks w.2.1 = st
        · rw [if_pos c2] at fl hQ1
          have c2' : ((kix ks w.2.1 : Nat) : Int) = (st : Int) := by omega
          have fl1 : F.length < 100000 := by simp at fl; omega
          have pdd : pd (p ++ [i]) = .lst (p.map (fun i : Nat => D.int i) ++ [.int i]) := by simp [pd]
          rw [show List.map pd [p ++ [i]] = [pd (p ++ [i])] from rfl, pdd] at hQ1
          have pll : (p.map fun i : Nat => D.int i).length ≤ 100 := by rw [List.length_map]; omega
          have pe : pd p = .lst (p.map fun i : Nat => D.int i) := rfl
          rw [pe]
          rw [pe] at hQ1
          generalize (p.map fun i : Nat => D.int i) = P at pll hQ1 ⊢
          generalize pd vis = VI at hQ1 ⊢
          have pa : ∀ ρ, addR (.lst P) (.lst [.int i]) ρ = .ok (.own (.l (P ++ [.int i]))) ρ := fun ρ => addR_lst (by simp; omega)
          simp (disch := omega) [T.n1, e1, e2, wd_0, wd_1, c1', c2', fl1, pa]
          subst hQ1
          exact ⟨some (.p (.int i)), some (.p (wd w)), some (.p (.int st)), by simp⟩
        · rw [if_neg c2] at fl hQ1
          have c2' : ¬ ((kix ks w.2.1 : Nat) : Int) = (st : Int) := by omega
          have pll : (p.map fun i : Nat => D.int i).length ≤ 100 := by rw [List.length_map]; omega
          have vll : (vis.map fun i : Nat => D.int i).length ≤ 100 := by rw [List.length_map]; omega
          have nI := oNotIn_nats (t := kix ks w.2.1) (vis := vis)
          have pe : pd p = .lst (p.map fun i : Nat => D.int i) := rfl
          have ve : pd vis = .lst (vis.map fun i : Nat => D.int i) := rfl
          have pdd : pd (p ++ [i]) = .lst (p.map (fun i : Nat => D.int i) ++ [.int i]) := by simp [pd]
          have vdd : pd (vis ++ [kix ks w.2.1]) = .lst (vis.map (fun i : Nat => D.int i) ++ [.int (kix ks w.2.1 : Nat)]) := by simp [pd]
          by_cases c3 : st < kix ks w.2.1 ∧ ¬ kix ks w.2.1 ∈ vis
          · rw [if_pos c3] at fl hQ1
            obtain ⟨c4, c5⟩ := c3
            have c4' : (st : Int) < ((kix ks w.2.1 : Nat) : Int) := by omega
            have c6 : kix ks w.2.1 < ks.length := kix_lt w2
            have rc := rec_ st (kix ks w.2.1) (p ++ [i]) (vis ++ [kix ks w.2.1]) F (by omega) (by simp; omega) (by
              refine List.nodup_append.mpr ⟨nd, by simp, fun a ha b hb => ?_⟩
              have : b = kix ks w.2.1 := by simpa using hb
              rintro rfl; exact c5 (this ▸ ha)) (fun v hv => by
              rcases List.mem_append.mp hv with h | h
              · exact lt v h
              · have : v = kix ks w.2.1 := by simpa using h
                omega) (by simp; omega) fl
            rw [pdd, vdd] at rc
            rw [decide_eq_false c5] at nI
            rw [pe, ve]
            rw [pe, ve] at hQ1
            generalize (p.map fun i : Nat => D.int i) = P at pll hQ1 rc ⊢
            generalize (vis.map fun i : Nat => D.int i) = VI at vll nI hQ1 rc ⊢
            have pa : ∀ ρ, addR (.lst P) (.lst [.int i]) ρ = .ok (.own (.l (P ++ [.int i]))) ρ := fun ρ => addR_lst (by simp; omega)
            have va : ∀ ρ, addR (.lst VI) (.lst [.int (kix ks w.2.1 : Nat)]) ρ = .ok (.own (.l (VI ++ [.int (kix ks w.2.1 : Nat)]))) ρ := fun ρ => addR_lst (by simp; omega)
            simp (disch := omega) [T.n1, e1, e2, wd_0, wd_1, c1', c2', c4', nI, pa, va, rc]
            subst hQ1
            exact ⟨some (.p (.int i)), some (.p (wd w)), some (.p (.int (kix ks w.2.1 : Nat))), by simp⟩
          · rw [if_neg c3] at fl hQ1
            rw [pe, ve]
            rw [pe, ve] at hQ1
            generalize (p.map fun i : Nat => D.int i) = P at pll hQ1 ⊢
            generalize (vis.map fun i : Nat => D.int i) = VI at vll nI hQ1 ⊢
            by_cases c4 : st < kix ks w.2.1
            · have c5 : kix ks w.2.1 ∈ vis := by
                by_cases h : kix ks w.2.1 ∈ vis
                · exact h
                · exact absurd ⟨c4, h⟩ c3
              have c4' : (st : Int) < ((kix ks w.2.1 : Nat) : Int) := by omega
              rw [decide_eq_true c5] at nI
              simp (disch := omega) [T.n1, e1, e2, wd_0, wd_1, c1', c2', c4', nI]
              subst hQ1
              exact ⟨some (.p (.int i)), some (.p (wd w)), some (.p (.int (kix ks w.2.1 : Nat))), by simp⟩
            · have c4' : ¬ (st : Int) < ((kix ks w.2.1 : Nat) : Int) := by omega
              simp (disch := omega) [T.n1, e1, e2, wd_0, wd_1, c1', c2', c4']
              subst hQ1
              exact ⟨some (.p (.int i)), some (.p (wd w)), some (.p (.int (kix ks w.2.1 : Nat))), by simp⟩
      · rw [if_neg c1] at hQ1
        have c1' : ¬ ((kix ks w.1 : Nat) : Int) = (la : Int) := by omega
        simp [T.n1, e1, wd_0, c1']
        subst hQ1
        exact ⟨some (.p (.int i)), some (.p (wd w)), c, by simp⟩
    · rintro ρ ⟨a, b, c, rfl⟩
      rw [enumD_len, List.length_map, ← List.length_zipIdx (l := ws) (i := 0), List.take_length]
      subst hQ
      exact endM_nx rfl
theorem ext_mem {ks : List (Str × Int × Int)} {ws : List (Str × Str × Int)} : ∀ {n st la : Nat} {p vis : List Nat} {c : List Nat}, (∀ i, i ∈ p → i < ws.length) → c ∈ ext ks ws n st la p vis → c ≠ [] ∧ c.length ≤ p.length + n ∧ ∀ i, i ∈ c → i < ws.length
  | 0, _, _, _, _, _, _, h => by simp [ext] at h
  | n + 1, st, la, p, vis, c, hp, h => by
    rw [ext_succ] at h
    obtain ⟨⟨w, i⟩, hw, hc⟩ := List.mem_flatMap.mp h
    have hi : i < ws.length := by
      have := List.mem_zipIdx hw
      omega
    unfold ext1 at hc
    have hp' : ∀ j, j ∈ p ++ [i] → j < ws.length := fun j hj => by
      rcases List.mem_append.mp hj with h | h
      · exact hp j h
      · simp at h; omega
    split at hc
    · split at hc
      · simp at hc; subst hc
        exact ⟨by simp, by simp, hp'⟩
      · split at hc
        · obtain ⟨h1, h2, h3⟩ := ext_mem hp' hc
          exact ⟨h1, by rw [List.length_append] at h2; simp at h2; omega, h3⟩
        · simp at hc
    · simp at hc
theorem circ_mem {ks : List (Str × Int × Int)} {ws : List (Str × Str × Int)} {c : List Nat} (h : c ∈ circ ks ws) : c ≠ [] ∧ c.length ≤ ks.length ∧ ∀ i, i ∈ c → i < ws.length := by
  obtain ⟨s, _, hs⟩ := List.mem_flatMap.mp h
  have := ext_mem (by simp) hs
  simpa using this
theorem flat_len {α β : Type} {f : α → List β} {b : Nat} : ∀ {xs : List α}, (∀ x, x ∈ xs → (f x).length ≤ b) → (xs.flatMap f).length ≤ xs.length * b
  | [], _ => by simp
  | x :: xs, h => by
    have ih := flat_len (xs := xs) fun y hy => h y (List.mem_cons_of_mem _ hy)
    have := h x List.mem_cons_self
    rw [List.flatMap_cons, List.length_append, List.length_cons, Nat.add_mul]
    omega
theorem ext_len {ks : List (Str × Int × Int)} {ws : List (Str × Str × Int)} {m : Nat} (hm : ws.length ≤ m) (h1 : 1 ≤ m) : ∀ {n st la : Nat} {p vis : List Nat}, (ext ks ws n st la p vis).length ≤ m ^ n
  | 0, _, _, _, _ => by simp [ext]
  | n + 1, st, la, p, vis => by
    rw [ext_succ]
    have := flat_len (xs := ws.zipIdx) (f := ext1 ks ws n st la p vis) (b := m ^ n) fun w _ => by
      have hp : 1 ≤ m ^ n := Nat.one_le_pow _ _ h1
      unfold ext1
      split
      · split
        · simpa using hp
        · split
          · exact ext_len hm h1
          · simp
      · simp
    rw [List.length_zipIdx] at this
    rw [Nat.pow_succ, Nat.mul_comm]
    exact Nat.le_trans this (Nat.mul_le_mul_right _ hm)
theorem circ_len {ks : List (Str × Int × Int)} {ws : List (Str × Str × Int)} (hk : ks.length ≤ 3) (hw : ws.length ≤ 4) : (circ ks ws).length < 1000 := by
  have := flat_len (xs := List.range ks.length) (f := fun s => ext ks ws ks.length s s [] [s]) (b := 4 ^ 3) fun s _ =>
    Nat.le_trans (ext_len hw (by omega)) (Nat.pow_le_pow_right (by omega) hk)
  rw [List.length_range] at this
  have e : (4 : Nat) ^ 3 = 64 := by decide
  rw [e] at this
  unfold circ
  omega
set_option maxHeartbeats 0 in
theorem circuits_ok {a_Task : Addr} {tf : Fs} {ks : List (Str × Int × Int)} {ws : List (Str × Str × Int)} (T : TF tf ks ws) (hk : KindsOk ks) (hw : WaysOk ks ws) (hl : (circ ks ws).length < 50000) :
    fn_circuits a_Task [.ins a_Task tf] = .ok (.l ((circ ks ws).map pd)) := by
  obtain ⟨_, h, rfl⟩ : ∃ sv, fn_circuits a_Task [.ins a_Task tf] = .ok sv ∧ sv = .l ((circ ks ws).map pd) := by
    refine run0_wpQ rfl fun Q hQ => ?_
    show Endg Q (G_circuits a_Task [some (.p (.ins a_Task tf)), none, none])
    unfold G_circuits
    obtain ⟨k1, k2, _, knd⟩ := id hk
    have hKl : (ks.map kd).length = ks.length := List.length_map ..
    have tk := T.k
    have ec : circ ks ws = (List.range ks.length).flatMap fun s => ext ks ws ks.length s s [] [s] := rfl
    have rec_ := fun s found => extend_ok (a_Task := a_Task) T hk hw ks.length 12 s s [] [s] found (by omega)
    rw [ec] at hl hQ
    generalize hE : (fun s => ext ks ws ks.length s s [] [s]) = E1 at hl hQ
    generalize ks.map kd = KS at tk hKl
    rw [← hKl] at hl hQ
    have hKl2 : KS.length ≤ 100000 := by omega
    simp (disch := omega) [tk]
    refine endg_bind (forL_wp (fun i ρ => ∃ a : Option SV, ρ = [some (.p (.ins a_Task tf)), some (.l (((List.range KS.length).take i |>.flatMap E1).map pd)), a]) ⟨none, by simp⟩ ?_ ?_)
    · rintro i d ρ hi ⟨a, rfl⟩
      have hil := (List.getElem?_eq_some_iff.mp hi).1
      rw [rngD_len] at hil
      have hil' : i < KS.length := by simpa using hil
      have := rngD_get hi
      subst this
      refine ⟨_, rfl, ?_⟩
      refine endg_hide fun Q1 hQ1 => ?_
      have hz : (List.range KS.length)[i]? = some i := List.getElem?_range hil'
      have tot := flat_take_le (f := E1) (xs := List.range KS.length) (i := i + 1)
      rw [take_flat hz, List.length_append] at tot
      rw [take_flat hz] at hQ1
      generalize hF : ((List.range KS.length).take i).flatMap E1 = F at hQ1 tot ⊢
      rw [List.map_append] at hQ1
      have fl : (F.map pd).length < 50000 := by rw [List.length_map]; omega
      have rc := rec_ i (F.map pd) (by simp; omega) (by simp) (by simp; omega) (by simp) (by
        have : E1 i = ext ks ws ks.length i i [] [i] := by rw [← hE]
        rw [← this]; omega)
      have ei : ext ks ws ks.length i i [] [i] = E1 i := by rw [← hE]
      rw [ei] at rc
      rw [show pd [] = .lst [] from rfl, show pd [i] = .lst [.int i] from rfl] at rc
      generalize F.map pd = FM at rc fl hQ1 ⊢
      generalize (E1 i).map pd = EM at rc hQ1
      simp [rc]
      subst hQ1
      exact ⟨_, rfl⟩
    · rintro ρ ⟨a, rfl⟩
      rw [rngD_len]
      have e : (((KS.length : Nat) : Int) - 0).toNat = KS.length := by omega
      try rw [e]
      have : List.take KS.length (List.range KS.length) = List.range KS.length := List.take_of_length_le (by simp)
      simp [this]
      subst hQ
      rfl
  exact h
/-! ### circuits by numbers: a i, b i the kinds of way i -/
def extA (a b : Nat → Nat) (W : Nat) : Nat → Nat → Nat → List Nat → List Nat → List (List Nat)
  | 0, _, _, _, _ => []
  | n + 1, st, la, p, vis => (List.range W).flatMap fun i => if a i = la then (if b i = st then [p ++ [i]] else if st < b i ∧ ¬ b i ∈ vis then extA a b W n st (b i) (p ++ [i]) (vis ++ [b i]) else []) else []
/-- a path from la back to st -/
def PathA (a b : Nat → Nat) (W : Nat) (st : Nat) : Nat → List Nat → List Nat → Prop
  | _, _, [] => False
  | la, _, [i] => i < W ∧ a i = la ∧ b i = st
  | la, vis, i :: j :: r => i < W ∧ a i = la ∧ b i ≠ st ∧ st < b i ∧ ¬ b i ∈ vis ∧ PathA a b W st (b i) (vis ++ [b i]) (j :: r)
theorem PathA.ne {a b : Nat → Nat} {W st la : Nat} {vis q : List Nat} (h : PathA a b W st la vis q) : q ≠ [] := by
  rintro rfl; exact h
theorem mem_extA {a b : Nat → Nat} {W : Nat} : ∀ {n st la : Nat} {p vis c : List Nat}, c ∈ extA a b W n st la p vis ↔ ∃ q, c = p ++ q ∧ q.length ≤ n ∧ PathA a b W st la vis q
  | 0, st, la, p, vis, c => by
    constructor
    · intro h; simp [extA] at h
    · rintro ⟨q, _, h2, h3⟩
      exact absurd (List.length_eq_zero_iff.mp (by omega)) h3.ne
  | n + 1, st, la, p, vis, c => by
    unfold extA
    rw [List.mem_flatMap]
    constructor
    · rintro ⟨i, hi, hc⟩
      have hi' := List.mem_range.mp hi
      split at hc
      · rename_i ha
        split at hc
        · rename_i hb
          have : c = p ++ [i] := by simpa using hc
          exact ⟨[i], this, by simp, hi', ha, hb⟩
        · rename_i hb
          split at hc
          · rename_i h2
            obtain ⟨q, e, hl, hp⟩ := mem_extA.mp hc
            refine ⟨i :: q, by rw [e]; simp, by simp; omega, ?_⟩
            cases q with
            | nil => exact absurd rfl hp.ne
            | cons j r => exact ⟨hi', ha, hb, h2.1, h2.2, hp⟩
          · simp at hc
      · simp at hc
    · rintro ⟨q, rfl, hl, hp⟩
      match q, hp, hl with
      | [i], ⟨h1, h2, h3⟩, _ => exact ⟨i, List.mem_range.mpr h1, by simp [h2, h3]⟩
      | i :: j :: r, ⟨h1, h2, h3, h4, h5, h6⟩, hl =>
        refine ⟨i, List.mem_range.mpr h1, ?_⟩
        rw [if_pos h2, if_neg h3, if_pos ⟨h4, h5⟩]
        exact mem_extA.mpr ⟨j :: r, by simp, by simp at hl ⊢; omega, h6⟩
/-- less at the first place that differs -/
def lx (x y : List Nat) : Prop := ∃ p i j r r', i < j ∧ x = p ++ i :: r ∧ y = p ++ j :: r'
theorem extA_sorted {a b : Nat → Nat} {W : Nat} : ∀ {n st la : Nat} {p vis : List Nat}, (extA a b W n st la p vis).Pairwise lx
  | 0, _, _, _, _ => by simp [extA]
  | n + 1, st, la, p, vis => by
    unfold extA
    refine List.pairwise_flatMap.mpr ⟨fun i _ => ?_, ?_⟩
    · split
      · split
        · simp
        · split
          · exact extA_sorted
          · simp
      · simp
    · have key : ∀ i c, c ∈ (if a i = la then (if b i = st then [p ++ [i]] else if st < b i ∧ ¬ b i ∈ vis then extA a b W n st (b i) (p ++ [i]) (vis ++ [b i]) else []) else []) → ∃ r, c = p ++ i :: r := fun i c hc => by
        split at hc
        · split at hc
          · exact ⟨[], by simpa using hc⟩
          · split at hc
            · obtain ⟨q, e, _⟩ := mem_extA.mp hc
              exact ⟨q, by rw [e]; simp⟩
            · simp at hc
        · simp at hc
      refine List.pairwise_lt_range.imp fun {i j} hij x hx y hy => ?_
      obtain ⟨r, e1⟩ := key i x hx
      obtain ⟨r', e2⟩ := key j y hy
      exact ⟨p, i, j, r, r', hij, e1, e2⟩
def circA (a b : Nat → Nat) (W K : Nat) : List (List Nat) := (List.range K).flatMap fun s => extA a b W K s s [] [s]
theorem lx_lt {x y : List Nat} (h : lx x y) : x.map (fun i : Nat => (i : Int)) < y.map (fun i : Nat => (i : Int)) := by
  obtain ⟨p, i, j, r, r', hij, rfl, rfl⟩ := h
  induction p with
  | nil => simp [List.cons_lt_cons_iff]; omega
  | cons k p ih => 
    simp only [List.cons_append, List.map_cons]
    rw [List.cons_lt_cons_iff]
    exact .inr ⟨rfl, ih⟩
theorem mem_circA {a b : Nat → Nat} {W K : Nat} {c : List Nat} : c ∈ circA a b W K ↔ ∃ s, s < K ∧ c.length ≤ K ∧ PathA a b W s s [s] c := by
  unfold circA
  rw [List.mem_flatMap]
  constructor
  · rintro ⟨s, hs, hc⟩
    obtain ⟨q, e, h1, h2⟩ := mem_extA.mp hc
    rw [List.nil_append] at e
    subst e
    exact ⟨s, List.mem_range.mp hs, h1, h2⟩
  · rintro ⟨s, hs, h1, h2⟩
    exact ⟨s, List.mem_range.mpr hs, mem_extA.mpr ⟨c, rfl, h1, h2⟩⟩
theorem path_head {a b : Nat → Nat} {W st la : Nat} {vis c : List Nat} (h : PathA a b W st la vis c) : ∃ i r, c = i :: r ∧ a i = la := by
  match c, h with
  | [i], ⟨_, h2, _⟩ => exact ⟨i, [], rfl, h2⟩
  | i :: j :: r, ⟨_, h2, _⟩ => exact ⟨i, _, rfl, h2⟩
/-- the key of a circuit: the kind of its first source -/
def hdK (a : Nat → Nat) (c : List Nat) : Nat := a (c.headD 0)
theorem circA_sorted {a b : Nat → Nat} {W K : Nat} : (circA a b W K).Pairwise fun x y => hdK a x < hdK a y ∨ (hdK a x = hdK a y ∧ lx x y) := by
  unfold circA
  have key : ∀ s c, c ∈ extA a b W K s s [] [s] → hdK a c = s := fun s c hc => by
    obtain ⟨q, e, _, h2⟩ := mem_extA.mp hc
    rw [List.nil_append] at e
    subst e
    obtain ⟨i, r, rfl, h⟩ := path_head h2
    exact h
  refine List.pairwise_flatMap.mpr ⟨fun s _ => ?_, ?_⟩
  · refine List.Pairwise.imp_of_mem ?_ extA_sorted
    intro x y hx hy hl
    exact .inr ⟨by rw [key s x hx, key s y hy], hl⟩
  · refine List.pairwise_lt_range.imp fun {i j} hij x hx y hy => .inl ?_
    rw [key i x hx, key j y hy]; exact hij
theorem lx_irr {x : List Nat} (h : lx x x) : False := by
  have := lx_lt h
  exact absurd this (List.lt_irrefl _)
theorem circA_nodup {a b : Nat → Nat} {W K : Nat} : (circA a b W K).Nodup := circA_sorted.imp fun {x y} h e => by
  subst e
  rcases h with h | h
  · exact absurd h (Nat.lt_irrefl _)
  · exact lx_irr h.2
/-! ### closing lists of one to three ways -/
def nt (c : List Nat) (i : Nat) : Nat := (c[i]?).getD 0
def clz (a b : Nat → Nat) (c : List Nat) : Bool := (List.range c.length).all fun k => decide (b (nt c k) = a (nt c ((k + 1) % c.length))) && !decide (a (nt c k) ∈ (c.map a).take k) && decide (a (nt c 0) ≤ a (nt c k))
def lists3 (W : Nat) : List (List Nat) := (List.range W).flatMap fun i => ([i] :: (List.range W).map fun j => [i, j]) ++ (List.range W).flatMap fun j => (List.range W).map fun l => [i, j, l]
theorem lists3_nodup {W : Nat} (h : W ≤ 4) : (lists3 W).Nodup := by
  rcases (by omega : W = 0 ∨ W = 1 ∨ W = 2 ∨ W = 3 ∨ W = 4) with h | h | h | h | h <;> subst h <;> decide +kernel
theorem mem_lists3 {W : Nat} {c : List Nat} : c ∈ lists3 W ↔ c ≠ [] ∧ c.length ≤ 3 ∧ ∀ i, i ∈ c → i < W := by
  unfold lists3
  simp only [List.mem_flatMap, List.mem_append, List.mem_cons, List.mem_map, List.mem_range]
  constructor
  · rintro ⟨i, hi, h⟩
    rcases h with (rfl | ⟨j, hj, rfl⟩) | ⟨j, hj, l, hl, rfl⟩
    · refine ⟨by simp, by simp, fun k hk => ?_⟩
      simp at hk; omega
    · refine ⟨by simp, by simp, fun k hk => ?_⟩
      simp at hk; omega
    · refine ⟨by simp, by simp, fun k hk => ?_⟩
      simp at hk; omega
  · rintro ⟨h1, h2, h3⟩
    match c, h1, h2, h3 with
    | [i], _, _, h3 => exact ⟨i, h3 i (by simp), .inl (.inl rfl)⟩
    | [i, j], _, _, h3 => exact ⟨i, h3 i (by simp), .inl (.inr ⟨j, h3 j (by simp), rfl⟩)⟩
    | [i, j, l], _, _, h3 => exact ⟨i, h3 i (by simp), .inr ⟨j, h3 j (by simp), l, h3 l (by simp), rfl⟩⟩
theorem clz_path {a b : Nat → Nat} {W K : Nat} (ha : ∀ i, i < W → a i < K) (hb : ∀ i, i < W → b i < K) (hK : K ≤ 3) {c : List Nat} (h0 : c ≠ []) (hl : c.length ≤ 3) (hw : ∀ i, i ∈ c → i < W) :
    clz a b c = true ↔ ∃ s, s < K ∧ c.length ≤ K ∧ PathA a b W s s [s] c := by
  match c, h0, hl, hw with
  | [i], _, _, hw =>
    have hi := hw i (by simp)
    have := ha i hi
    have := hb i hi
    simp [clz, nt, PathA, hi]
    constructor
    · intro e; exact ⟨a i, by omega, by omega, rfl, e⟩
    · rintro ⟨s, h1, h2, h3, h4⟩; omega
  | [i, j], _, _, hw =>
    have hi := hw i (by simp)
    have hj := hw j (by simp)
    have := ha i hi
    have := ha j hj
    have := hb i hi
    simp [clz, nt, PathA, hi, hj, List.range_succ]
    constructor
    · intro h; exact ⟨a i, by omega, by omega, rfl, by omega, by omega, by omega, by omega⟩
    · rintro ⟨s, h⟩; omega
  | [i, j, l], _, _, hw =>
    have hi := hw i (by simp)
    have hj := hw j (by simp)
    have hl := hw l (by simp)
    have := ha i hi
    have := ha j hj
    have := ha l hl
    have := hb i hi
    simp [clz, nt, PathA, hi, hj, hl, List.range_succ]
    constructor
    · intro h; exact ⟨a i, by omega, by omega, rfl, by omega, by omega, by omega, by omega, by omega, by omega, by omega, by omega⟩
    · rintro ⟨s, h⟩; omega
theorem found_perm {a b : Nat → Nat} {W K : Nat} (ha : ∀ i, i < W → a i < K) (hb : ∀ i, i < W → b i < K) (hK : K ≤ 3) (hW : W ≤ 4) : ((lists3 W).filter (clz a b)).Perm (circA a b W K) := by
  refine (List.perm_ext_iff_of_nodup ((lists3_nodup hW).filter _) circA_nodup).mpr fun c => ?_
  rw [List.mem_filter, mem_lists3, mem_circA]
  constructor
  · rintro ⟨⟨h1, h2, h3⟩, h4⟩
    exact (clz_path ha hb hK h1 h2 h3).mp h4
  · rintro ⟨s, h1, h2, h3⟩
    have hw : ∀ {la : Nat} {vis c : List Nat}, PathA a b W s la vis c → ∀ i, i ∈ c → i < W := by
      intro la vis c
      induction c generalizing la vis with
      | nil => intro h; exact h.elim
      | cons i c ih =>
        cases c with
        | nil => rintro ⟨h, _⟩ j hj; simp at hj; omega
        | cons j r =>
          rintro ⟨h, _, _, _, _, h6⟩ k hk
          rcases List.mem_cons.mp hk with rfl | hk
          · exact h
          · exact ih h6 k hk
    have := hw h3
    exact ⟨⟨h3.ne, by omega, this⟩, (clz_path ha hb hK h3.ne (by omega) this).mpr ⟨s, h1, h2, h3⟩⟩
/-! ## The law's circuits -/
def ka (ks : List (Str × Int × Int)) (ws : List (Str × Str × Int)) (i : Nat) : Nat := kix ks (wat ws i).1
def kb (ks : List (Str × Int × Int)) (ws : List (Str × Str × Int)) (i : Nat) : Nat := kix ks (wat ws i).2.1
theorem zip_range {ws : List (Str × Str × Int)} : ws.zipIdx = (List.range ws.length).map fun i => (wat ws i, i) := by
  refine List.ext_getElem? fun i => ?_
  rw [List.getElem?_zipIdx, List.getElem?_map]
  by_cases h : i < ws.length
  · rw [List.getElem?_range h, wat_get h]; simp
  · rw [List.getElem?_eq_none (by omega), List.getElem?_eq_none (by simp; omega)]; rfl
theorem ext_A {ks : List (Str × Int × Int)} {ws : List (Str × Str × Int)} : ∀ {n st la : Nat} {p vis : List Nat}, ext ks ws n st la p vis = extA (ka ks ws) (kb ks ws) ws.length n st la p vis
  | 0, _, _, _, _ => rfl
  | n + 1, st, la, p, vis => by
    rw [ext_succ, zip_range, List.flatMap_map]
    show _ = (List.range ws.length).flatMap _
    congr 1
    funext i
    unfold ext1 ka kb
    dsimp only
    rw [ext_A (n := n)]
    rfl
theorem circ_A {ks : List (Str × Int × Int)} {ws : List (Str × Str × Int)} : circ ks ws = circA (ka ks ws) (kb ks ws) ws.length ks.length := by
  unfold circ circA
  congr 1
  funext s
  exact ext_A
theorem kix_inj {ks : List (Str × Int × Int)} {s t : Str} (hs : s ∈ ks.map (·.1)) (ht : t ∈ ks.map (·.1)) (e : kix ks s = kix ks t) : s = t := by
  have h1 := kix_spec hs
  have h2 := kix_spec ht
  rw [← h1, ← h2]
  congr 2
def wsrc (ws : List (Str × Str × Int)) (c : List Nat) : List Str := c.map fun i => (wat ws i).1
theorem src_mem {ks : List (Str × Int × Int)} {ws : List (Str × Str × Int)} (hw : WaysOk ks ws) {i : Nat} (h : i < ws.length) : (wat ws i).1 ∈ ks.map (·.1) ∧ (wat ws i).2.1 ∈ ks.map (·.1) := ⟨(hw.2 _ (wat_mem h)).1, (hw.2 _ (wat_mem h)).2.1⟩
theorem mem_kix {ks : List (Str × Int × Int)} {s : Str} (hs : s ∈ ks.map (·.1)) : ∀ {xs : List Str}, (∀ x, x ∈ xs → x ∈ ks.map (·.1)) → (s ∈ xs ↔ kix ks s ∈ xs.map (kix ks)) := fun {xs} hx => by
  constructor
  · exact fun h => List.mem_map.mpr ⟨s, h, rfl⟩
  · intro h
    obtain ⟨t, h1, h2⟩ := List.mem_map.mp h
    rw [← kix_inj (hx t h1) hs h2]; exact h1
/-! ### paths by their sources and targets; a bound on their number -/
theorem pathA_iff {a b : Nat → Nat} {W st : Nat} : ∀ {q : List Nat} {la : Nat} {vis : List Nat}, PathA a b W st la vis q ↔ (∀ i, i ∈ q → i < W) ∧ ∃ xs, q.map a = la :: xs ∧ q.map b = xs ++ [st] ∧ xs.Nodup ∧ ∀ x, x ∈ xs → st < x ∧ x ∉ vis
  | [], la, vis => by
    constructor
    · intro h; exact h.elim
    · rintro ⟨_, xs, h, _⟩; cases h
  | [i], la, vis => by
    constructor
    · rintro ⟨h1, h2, h3⟩
      exact ⟨fun j hj => by simp at hj; omega, [], by simp [h2], by simp [h3], by simp, by simp⟩
    · rintro ⟨h0, xs, h1, h2, _⟩
      have : xs = [] := by simp at h1; exact h1.2
      subst this
      simp at h1 h2
      exact ⟨h0 i (by simp), h1, h2⟩
  | i :: j :: r, la, vis => by
    constructor
    · rintro ⟨h1, h2, h3, h4, h5, h6⟩
      obtain ⟨g0, xs, g1, g2, g3, g4⟩ := pathA_iff.mp h6
      refine ⟨fun k hk => ?_, b i :: xs, ?_, ?_, ?_, fun x hx => ?_⟩
      · rcases List.mem_cons.mp hk with rfl | hk
        · exact h1
        · exact g0 k hk
      · rw [List.map_cons, g1, h2]
      · rw [List.map_cons, g2]; rfl
      · refine List.nodup_cons.mpr ⟨fun hm => ?_, g3⟩
        exact (g4 _ hm).2 (List.mem_append.mpr (.inr (by simp)))
      · rcases List.mem_cons.mp hx with rfl | hx
        · exact ⟨h4, h5⟩
        · exact ⟨(g4 x hx).1, fun hv => (g4 x hx).2 (List.mem_append.mpr (.inl hv))⟩
    · rintro ⟨h0, xs, h1, h2, h3, h4⟩
      rw [List.map_cons] at h1
      obtain ⟨e1, e2⟩ := List.cons.inj h1
      cases xs with
      | nil => cases e2
      | cons x xs =>
        rw [List.map_cons, List.cons_append] at h2
        obtain ⟨e3, e4⟩ := List.cons.inj h2
        obtain ⟨g1, g2⟩ := List.nodup_cons.mp h3
        have hx := h4 x (by simp)
        refine ⟨h0 i (by simp), e1, by omega, by rw [e3]; exact hx.1, by rw [e3]; exact hx.2, ?_⟩
        rw [e3]
        refine pathA_iff.mpr ⟨fun k hk => h0 k (List.mem_cons_of_mem _ hk), xs, e2, e4, g2, fun y hy => ⟨(h4 y (by simp [hy])).1, fun hv => ?_⟩⟩
        rcases List.mem_append.mp hv with hv | hv
        · exact (h4 y (by simp [hy])).2 hv
        · have : y = x := by simpa using hv
          exact g1 (this ▸ hy)
/-- how many numbers below W have p -/
def cntW (W : Nat) (p : Nat → Bool) : Nat := (List.range W).countP p
theorem cntW_le {W : Nat} {p : Nat → Bool} : cntW W p ≤ W := by
  have := List.countP_le_length (p := p) (l := List.range W)
  rw [List.length_range] at this
  exact this
theorem cntW_or {W : Nat} {p q r : Nat → Bool} (h : ∀ i, i < W → p i = (q i || r i)) (h2 : ∀ i, i < W → ¬ (q i = true ∧ r i = true)) : cntW W p = cntW W q + cntW W r := by
  unfold cntW
  have : ∀ (xs : List Nat), (∀ i, i ∈ xs → p i = (q i || r i)) → (∀ i, i ∈ xs → ¬ (q i = true ∧ r i = true)) → xs.countP p = xs.countP q + xs.countP r := by
    intro xs
    induction xs with
    | nil => intro _ _; rfl
    | cons x xs ih =>
      intro g1 g2
      have e := ih (fun i hi => g1 i (by simp [hi])) (fun i hi => g2 i (by simp [hi]))
      have g1 := g1 x (by simp)
      have g2 := g2 x (by simp)
      simp only [List.countP_cons]
      rw [g1]
      cases hq : q x <;> cases hr : r x <;> simp_all <;> omega
  exact this _ (fun i hi => h i (List.mem_range.mp hi)) (fun i hi => h2 i (List.mem_range.mp hi))
theorem flat_len_if {α β : Type} {f : α → List β} {p : α → Bool} {b : Nat} : ∀ {xs : List α}, (∀ x, x ∈ xs → (f x).length ≤ if p x then b else 0) → (xs.flatMap f).length ≤ xs.countP p * b
  | [], _ => by simp
  | x :: xs, h => by
    have ih := flat_len_if (xs := xs) fun y hy => h y (List.mem_cons_of_mem _ hy)
    have := h x List.mem_cons_self
    rw [List.flatMap_cons, List.length_append, List.countP_cons]
    cases hp : p x
    · rw [hp] at this
      simp only [Bool.false_eq_true, if_false] at this ⊢
      rw [Nat.add_zero]; omega
    · rw [hp] at this
      simp only [if_true] at this ⊢
      rw [Nat.add_mul]; omega
theorem extA_bound {a b : Nat → Nat} {W : Nat} : ∀ {n st la : Nat} {p vis : List Nat}, (extA a b W n st la p vis).length ≤ cntW W (fun i => decide (a i = la)) * 2 ^ cntW W (fun i => decide (a i ∉ vis))
  | 0, _, _, _, _ => by simp [extA]
  | n + 1, st, la, p, vis => by
    unfold extA
    refine flat_len_if (p := fun i => decide (a i = la)) fun i _ => ?_
    have h1 : 1 ≤ 2 ^ cntW W (fun i => decide (a i ∉ vis)) := Nat.one_le_two_pow
    by_cases c1 : a i = la
    · rw [if_pos c1, if_pos (decide_eq_true c1)]
      by_cases c2 : b i = st
      · rw [if_pos c2]; simpa using h1
      · rw [if_neg c2]
        by_cases c3 : st < b i ∧ ¬ b i ∈ vis
        · rw [if_pos c3]
          refine Nat.le_trans extA_bound ?_
          rw [cntW_or (p := fun j => decide (a j ∉ vis)) (q := fun j => decide (a j = b i)) (r := fun j => decide (a j ∉ vis ++ [b i])) (fun j _ => by
            by_cases g : a j = b i
            · simp [g, c3.2]
            · simp [g]) (fun j _ => by
            rintro ⟨g1, g2⟩
            simp at g1 g2
            exact g2.2 g1)]
          rw [Nat.pow_add]
          exact Nat.mul_le_mul_right _ (Nat.le_of_lt Nat.lt_two_pow_self)
        · rw [if_neg c3]; simp
    · rw [if_neg c1]; simp
theorem circA_bound {a b : Nat → Nat} {W K : Nat} : (circA a b W K).length ≤ K * 2 ^ W := by
  have := flat_len (xs := List.range K) (f := fun s => extA a b W K s s [] [s]) (b := 2 ^ W) fun s _ => by
    refine Nat.le_trans extA_bound (Nat.le_trans (Nat.mul_le_mul_right _ (Nat.le_of_lt Nat.lt_two_pow_self)) ?_)
    rw [← Nat.pow_add]
    refine Nat.pow_le_pow_right (by omega) ?_
    rw [← cntW_or (p := fun _ => true) (fun j _ => by by_cases g : a j = s <;> simp [g]) (fun j _ => by simp)]
    exact cntW_le
  rw [List.length_range] at this
  exact this
/-! ### closing lists turned -/
/-- the sources, and the targets one further on -/
def Cyc {α : Type} (a b : Nat → α) (q : List Nat) : Prop := ∃ x xs, q.map a = x :: xs ∧ q.map b = xs ++ [x]
theorem Cyc.rot1 {α : Type} {a b : Nat → α} {i : Nat} {q : List Nat} (h : Cyc a b (i :: q)) : Cyc a b (q ++ [i]) := by
  obtain ⟨x, xs, h1, h2⟩ := h
  rw [List.map_cons] at h1 h2
  obtain ⟨rfl, e2⟩ := List.cons.inj h1
  subst e2
  cases q with
  | nil =>
    refine ⟨a i, [], rfl, ?_⟩
    simpa using h2
  | cons j r =>
    simp only [List.map_cons, List.cons_append] at h2
    obtain ⟨e3, e4⟩ := List.cons.inj h2
    refine ⟨a j, r.map a ++ [a i], by simp, ?_⟩
    show b j :: (r ++ [i]).map b = _
    rw [List.map_append, ← e4]
    simp [e3]
theorem Cyc.rot {α : Type} {a b : Nat → α} {q : List Nat} (h : Cyc a b q) : ∀ {f : Nat}, f ≤ q.length → Cyc a b (q.drop f ++ q.take f)
  | 0, _ => by simpa using h
  | f + 1, hf => by
    have ih := h.rot (f := f) (by omega)
    rw [List.drop_eq_getElem_cons (by omega), List.cons_append] at ih
    have := ih.rot1
    rw [List.append_assoc, List.take_append_getElem (by omega)] at this
    exact this
theorem Cyc.comp {α β : Type} {a b : Nat → α} {q : List Nat} (g : α → β) (h : Cyc a b q) : Cyc (fun i => g (a i)) (fun i => g (b i)) q := by
  obtain ⟨x, xs, h1, h2⟩ := h
  refine ⟨g x, xs.map g, ?_, ?_⟩
  · rw [show (fun i => g (a i)) = g ∘ a from rfl, ← List.map_map, h1]; rfl
  · rw [show (fun i => g (b i)) = g ∘ b from rfl, ← List.map_map, h2]; simp
/-- a closing list, turned to its least source, is one of the circuits -/
theorem turned_mem {a b : Nat → Nat} {W K : Nat} {q : List Nat} (hc : Cyc a b q) (hw : ∀ i, i ∈ q → i < W) (hk : ∀ i, i < W → a i < K) (nd : (q.map a).Nodup) {f : Nat} (hf : f < q.length) (hm : ∀ i, i ∈ q → a (q[f]'hf) ≤ a i) :
    q.drop f ++ q.take f ∈ circA a b W K := by
  have hp : (q.drop f ++ q.take f).Perm q := by
    have := List.perm_append_comm (l₁ := q.drop f) (l₂ := q.take f)
    rwa [List.take_append_drop] at this
  have c2 := hc.rot (f := f) (by omega)
  have hd : q.drop f ++ q.take f = q[f]'hf :: (q.drop (f + 1) ++ q.take f) := by rw [List.drop_eq_getElem_cons hf]; rfl
  have nd2 : ((q.drop f ++ q.take f).map a).Nodup := (hp.map a).nodup_iff.mpr nd
  have hw2 : ∀ i, i ∈ q.drop f ++ q.take f → i < W := fun i hi => hw i (hp.mem_iff.mp hi)
  have hm2 : ∀ i, i ∈ q.drop f ++ q.take f → a (q[f]'hf) ≤ a i := fun i hi => hm i (hp.mem_iff.mp hi)
  have hl : (q.drop f ++ q.take f).length ≤ K := by
    have := nodup_lt nd2 (K := K) fun v hv => by
      obtain ⟨i, hi, rfl⟩ := List.mem_map.mp hv
      exact hk i (hw2 i hi)
    rwa [List.length_map] at this
  obtain ⟨x, xs, h1, h2⟩ := c2
  generalize q.drop f ++ q.take f = t at *
  have hx : x = a (q[f]'hf) := by
    rw [hd, List.map_cons] at h1
    exact (List.cons.inj h1).1.symm
  have hin : ∀ y, y ∈ x :: xs → x ≤ y := fun y hy => by
    rw [← h1] at hy
    obtain ⟨i, hi, rfl⟩ := List.mem_map.mp hy
    rw [hx]; exact hm2 i hi
  rw [h1] at nd2
  obtain ⟨n1, n2⟩ := List.nodup_cons.mp nd2
  refine mem_circA.mpr ⟨x, ?_, hl, pathA_iff.mpr ⟨hw2, xs, h1, h2, n2, fun y hy => ?_⟩⟩
  · have : x ∈ t.map a := by rw [h1]; simp
    obtain ⟨i, hi, rfl⟩ := List.mem_map.mp this
    exact hk i (hw2 i hi)
  · have := hin y (by simp [hy])
    have ne : y ≠ x := fun e => n1 (e ▸ hy)
    refine ⟨by omega, fun hv => ne (by simpa using hv)⟩
/-- a circuit closes -/
theorem circ_closes {a b : Nat → Nat} {W K : Nat} {c : List Nat} (h : c ∈ circA a b W K) : clz a b c = true := by
  obtain ⟨s, _, _, hp⟩ := mem_circA.mp h
  obtain ⟨_, xs, h1, h2, h3, h4⟩ := pathA_iff.mp hp
  have hl : c.length = xs.length + 1 := by
    have := congrArg List.length h1
    simpa using this
  have ga : ∀ k, (hk : k < c.length) → a (nt c k) = (s :: xs)[k]'(by simp; omega) := fun k hk => by
    have : (c.map a)[k]? = (s :: xs)[k]? := by rw [h1]
    rw [List.getElem?_map, List.getElem?_eq_getElem hk, List.getElem?_eq_getElem (by simp; omega)] at this
    unfold nt
    rw [List.getElem?_eq_getElem hk]
    simpa using this
  have gb : ∀ k, (hk : k < c.length) → b (nt c k) = (xs ++ [s])[k]'(by simp; omega) := fun k hk => by
    have : (c.map b)[k]? = (xs ++ [s])[k]? := by rw [h2]
    rw [List.getElem?_map, List.getElem?_eq_getElem hk, List.getElem?_eq_getElem (by simp; omega)] at this
    unfold nt
    rw [List.getElem?_eq_getElem hk]
    simpa using this
  have nd : (s :: xs).Nodup := List.nodup_cons.mpr ⟨fun hm => by have := (h4 s hm).1; omega, h3⟩
  unfold clz
  rw [List.all_eq_true]
  intro k hk
  have hk := List.mem_range.mp hk
  simp only [Bool.and_eq_true, decide_eq_true_eq, Bool.not_eq_true', decide_eq_false_iff_not]
  refine ⟨⟨?_, ?_⟩, ?_⟩
  · by_cases hlast : k + 1 = c.length
    · rw [hlast, Nat.mod_self, gb k hk, ga 0 (by omega)]
      rw [List.getElem_append_right (by omega)]
      simp
    · rw [Nat.mod_eq_of_lt (by omega), gb k hk, ga (k + 1) (by omega)]
      rw [List.getElem_append_left (by omega)]
      simp
  · rw [ga k hk, h1]
    intro hm
    obtain ⟨j, hj, e⟩ := List.mem_take_iff_getElem.mp hm
    have := (List.getElem_inj nd).mp e
    omega
  · rw [ga 0 (by omega), ga k hk]
    have : (s :: xs)[k]'(by simp; omega) ∈ s :: xs := List.getElem_mem _
    rcases List.mem_cons.mp this with e | hm
    · rw [e]; simp
    · have := (h4 _ hm).1; simp; omega
theorem clz_at {a b : Nat → Nat} {c : List Nat} (h : clz a b c = true) {k : Nat} (hk : k < c.length) : b (nt c k) = a (nt c ((k + 1) % c.length)) ∧ decide (a (nt c k) ∈ (c.map a).take k) = false ∧ a (nt c 0) ≤ a (nt c k) := by
  unfold clz at h
  have := List.all_eq_true.mp h k (List.mem_range.mpr hk)
  simp only [Bool.and_eq_true, decide_eq_true_eq, Bool.not_eq_true'] at this
  exact ⟨this.1.1, this.1.2, this.2⟩
theorem oIn_nats {t : Nat} {xs : List Nat} : oIn (.int t) (.lst (xs.map fun i : Nat => D.int i)) = some (.bl (decide (t ∈ xs))) := by
  unfold oIn D.inS
  simp [D.items, D.flat, flats_nats, inV_nats]
set_option maxHeartbeats 0 in
theorem is_circuit_ok {ks : List (Str × Int × Int)} {ws : List (Str × Str × Int)} (hk : KindsOk ks) (hw : WaysOk ks ws) {c : List Nat} (h0 : c ≠ []) (hl : c.length ≤ 100) (hm : ∀ i, i ∈ c → i < ws.length) (hall : clz (ka ks ws) (kb ks ws) c = true) :
    fn_u_law_is_circuit [.lst (ks.map kd), .lst (ws.map wd), pd c] = .ok (.p (.bl true)) := by
  obtain ⟨_, h, rfl⟩ : ∃ sv, fn_u_law_is_circuit [.lst (ks.map kd), .lst (ws.map wd), pd c] = .ok sv ∧ sv = .p (.bl true) := by
    refine run0_wpQ rfl fun Q hQ => ?_
    show Endg Q (G_u_law_is_circuit [some (.p (.lst (ks.map kd))), some (.p (.lst (ws.map wd))), some (.p (pd c)), none, none, none])
    unfold G_u_law_is_circuit
    have k2 := hk.2.1
    have c1 : 0 < c.length := List.length_pos_iff.mpr h0
    have ixw : ∀ (i : Nat) ρ, i < ws.length → ixR (.lst (ws.map wd)) (i : Int) ρ = .ok (.d (wd (wat ws i))) ρ := fun i ρ h => ixR_at (wat_get h) ρ
    have w0 := fun w ρ => wd_0 (w := w) ρ
    have w1 := fun w ρ => wd_1 (w := w) ρ
    have nb := fun {s : Str} (hs : s ∈ ks.map (·.1)) => number_ok (ks := ks) hs (by omega)
    have lenw : fLen [.lst (ws.map wd)] = some (.int (ws.length : Nat)) := by rw [fLen_lst, List.length_map]
    have lenc : fLen [pd c] = some (.int (c.length : Nat)) := by unfold pd; rw [fLen_lst, List.length_map]
    have tyc : (pd c).tyN = some "list" := rfl
    have itc : (pd c).items = some (c.map fun i : Nat => D.int i) := rfl
    have c1' : ¬ (c.length : Int) = 0 := by omega
    have ii := isint_ok
    generalize ks.map kd = KS at nb ⊢
    generalize hWS : ws.map wd = WS at ixw lenw ⊢
    have ixc : ∀ (i : Nat) ρ, i < c.length → ixR (pd c) (i : Int) ρ = .ok (.d (.int (nt c i : Nat))) ρ := fun i ρ h => ixR_at (el := fun i : Nat => D.int i) (by rw [List.getElem?_eq_getElem h]; unfold nt; rw [List.getElem?_eq_getElem h]; rfl) ρ
    generalize hP : pd c = P at ixc lenc tyc itc ⊢
    refine hide1 fun RT hRT => ?_
    simp (disch := omega) [lenc, tyc, h0]
    subst hRT
    refine hide1 fun RT hRT => ?_
    simp
    refine lc_seq (ex := fun i : Nat => D.int i) D.bl (fun _ => true) (xs := c) (by simp; exact ⟨rfl, rfl⟩) (by simpa using itc) rfl (by omega) (fun i hi => ?_) ?_
    · have := hm i hi
      have this' : (i : Int) < (ws.length : Int) := by omega
      exact ⟨_, _, by simp [ii, lenw, this']; exact ⟨rfl, rfl⟩, by simp, by simp⟩
    have hallb : (c.map fun _ => true).all _root_.id = true := by simp
    generalize (c.map fun _ => true) = bs at hallb ⊢
    simp [hallb]
    subst hRT
    refine hide1 fun RT hRT => ?_
    simp
    refine lc_seq (ex := fun i : Nat => D.int i) (fun n : Nat => D.int n) (ka ks ws) (xs := c) (by simp; exact ⟨rfl, rfl⟩) (by simpa using itc) rfl (by omega) (fun i hi => ?_) ?_
    · have e1 := fun ρ => ixw i ρ (hm i hi)
      have n1 := nb (src_mem hw (hm i hi)).1
      generalize hw1 : wat ws i = x1 at *
      have w01 := w0 x1
      have ek : ka ks ws i = kix ks x1.1 := by unfold ka; rw [hw1]
      generalize wd x1 = WD at *
      exact ⟨_, _, by simp [e1, w01, n1]; exact ⟨rfl, rfl⟩, by simp, by simp [ek]⟩
    have ixs : ∀ (i : Nat) ρ, i < c.length → ixR (.lst ((c.map (ka ks ws)).map fun n : Nat => D.int n)) (i : Int) ρ = .ok (.d (.int (ka ks ws (nt c i) : Nat))) ρ := fun i ρ h => ixR_at (el := fun i : Nat => D.int i) (by rw [List.getElem?_map, List.getElem?_eq_getElem h]; unfold nt; rw [List.getElem?_eq_getElem h]; rfl) ρ
    have hin : ∀ (i : Nat), oIn (.int (ka ks ws (nt c i) : Nat)) (.lst (((c.map (ka ks ws)).take i).map fun n : Nat => D.int n)) = some (.bl (decide (ka ks ws (nt c i) ∈ (c.map (ka ks ws)).take i))) := fun i => oIn_nats
    have hcut : ∀ i : Nat, cutD ((c.map (ka ks ws)).map fun n : Nat => D.int n) none (some (i : Int)) = ((c.map (ka ks ws)).take i).map fun n : Nat => D.int n := fun i => by rw [cut_to (by omega)]; rfl
    have cg : ∀ i, i < c.length → nt c i < ws.length := fun i h => hm _ (by simp [nt, List.getElem?_eq_getElem h])
    generalize (c.map (ka ks ws)).map (fun n : Nat => D.int n) = S at ixs hcut ⊢
    simp
    subst hRT
    refine hide1 fun RT hRT => ?_
    simp (disch := omega) [lenc]
    refine endg_bind (forL_wp (fun i ρ => ∃ a : Option SV, ρ = [some (.p (.lst KS)), some (.p (.lst WS)), some (.p P), some (.l S), a, none]) ⟨none, rfl⟩ ?_ ?_)
    · rintro i d ρ hi ⟨a, rfl⟩
      have hil := (List.getElem?_eq_some_iff.mp hi).1
      rw [rngD_len] at hil
      have := rngD_get hi
      subst this
      have hi' : i < c.length := by omega
      refine ⟨_, rfl, ?_⟩
      have m1 := src_mem hw (cg i hi')
      have hj : (i + 1) % c.length < c.length := Nat.mod_lt _ c1
      obtain ⟨g1, g2, g3⟩ := clz_at hall hi'
      have e1 := fun ρ => ixc i ρ hi'
      have e2 := fun ρ => ixs i ρ hi'
      have e3 := fun ρ => ixs _ ρ hj
      have e0 : ∀ ρ, ixR (.lst S) 0 ρ = .ok (.d (.int (ka ks ws (nt c 0) : Nat))) ρ := fun ρ => ixs 0 ρ c1
      have e4 := fun ρ => ixw (nt c i) ρ (cg i hi')
      have n1 := nb m1.2
      have hmod : ((i : Int) + 1) % (c.length : Int) = (((i + 1) % c.length : Nat) : Int) := by simp
      have hin := hin i
      have hcut := hcut i
      rw [g2] at hin
      have eb : kb ks ws (nt c i) = kix ks (wat ws (nt c i)).2.1 := rfl
      rw [eb] at g1
      rw [← g1] at e3
      generalize hjj : (i + 1) % c.length = j at *
      generalize hw1 : wat ws (nt c i) = x1 at *
      have w11 := w1 x1
      generalize wd x1 = WD at *
      generalize ((c.map (ka ks ws)).take i).map (fun n : Nat => D.int n) = TK at hin hcut
      generalize ka ks ws (nt c i) = A at *
      generalize ka ks ws (nt c 0) = A0 at *
      have g3' : ¬ (A : Int) < (A0 : Int) := by omega
      simp (disch := omega) [e1, e2, e3, e4, w11, hmod, lenc, hcut, hin, n1, e0, g3']
      exact ⟨_, rfl⟩
    · rintro ρ ⟨a, rfl⟩
      simp
      subst hRT
      simp
      subst hQ; rfl
  exact h
/-! ## Walks along ways -/
theorem ixR_last {α : Type} {el : α → D} {xs : List α} {x : α} (h : xs.getLast? = some x) (ρ : Rho) : ixR (.lst (xs.map el)) (-1) ρ = .ok (.d (el x)) ρ := by
  have hne : xs ≠ [] := fun z => by subst z; simp at h
  have hl : 0 < xs.length := List.length_pos_iff.mpr hne
  have e1 : atI (xs.map el) (-1) = some (el x) := by
    unfold atI ixN
    rw [if_neg (by decide), List.length_map]
    rw [if_pos (by omega)]
    rw [show ((-1 : Int) + (xs.length : Nat)).toNat = xs.length - 1 by omega]
    rw [Option.bind_some, List.getElem?_map, ← List.getLast?_eq_getElem?, h]
    rfl
  unfold ixR
  simp [e1]
theorem idx_strs {names : List Str} {s : Str} (h : s ∈ names) : ∃ j, (names.map V.str).findIdx? (fun z => eqV z (.str s)) = some j ∧ names[j]? = some s := by
  cases e : (names.map V.str).findIdx? (fun z => eqV z (.str s)) with
  | none =>
    exfalso
    have := List.findIdx?_eq_none_iff.mp e (.str s) (List.mem_map.mpr ⟨s, h, rfl⟩)
    simp [eqV] at this
  | some j =>
    obtain ⟨h1, h2, _⟩ := List.findIdx?_eq_some_iff_getElem.mp e
    refine ⟨j, rfl, ?_⟩
    have hl : j < names.length := by simpa using h1
    rw [List.getElem?_eq_getElem hl]
    simp [eqV] at h2
    rw [h2]
theorem litems_strs {names : List Str} : (D.lst (names.map D.str)).litems.bind flats = some (names.map V.str) := flats_strs
theorem rngD_map {lo : Int} {n : Nat} : rngD lo n = (List.range n).map fun i : Nat => D.int (lo + i) := rfl
/-- a comprehension over a range with a condition, as an equation -/
theorem lc_rfE {β : Type} (el : β → D) (fx : Nat → β) (pr : Nat → Bool) {lo : Int} {n : Nat} {src : Rho → Rs (List D)} {tt : Rho → Rs Bool} {elt : Rho → Rs RV} {v : Nat} {ρ ρ1 : Rho} (hs : src ρ = .ok (rngD lo n) ρ1) (hl : n ≤ 100000)
    (hb : ∀ x, x < n → ∃ ρ2, tt ((ρ1.set v none).set v (some (.p (.int (lo + (x : Nat)))))) = .ok (pr x) ρ2 ∧ (pr x = true → ∃ ρ3 r', elt ρ2 = .ok r' ρ3 ∧ (frz r' ρ3).set v none = ρ1.set v none ∧ view ρ3 r' = el (fx x)) ∧ (pr x = false → ρ2.set v none = ρ1.set v none)) :
    eLc src (gN v) tt elt [v] ρ = .ok (.own (.l ((((List.range n).filter pr).map fx).map el))) ((ρ1.set v none).set v (ρ1[v]?.getD none)) := by
  have e := lcL_flt (ex := fun i : Nat => D.int (lo + i)) (el := el) (fx := fx) (pr := pr) (tt := tt) (elt := elt) (v := v) (ρ := ρ1.set v none) (xs := List.range n) (acc := []) (by simpa using hl) (fun x hx => hb x (List.mem_range.mp hx))
  unfold eLc
  rw [hs]
  simp only [bind_ok, wipe_one]
  rw [List.map_nil, List.nil_append] at e
  rw [rngD_map, e]
  rfl
theorem lc_rf {β : Type} {Q : Out → Prop} (el : β → D) (fx : Nat → β) (pr : Nat → Bool) {lo : Int} {n : Nat} {src : Rho → Rs (List D)} {tt : Rho → Rs Bool} {elt : Rho → Rs RV} {v : Nat} {ρ ρ1 : Rho} {f : RV → Rho → Out} (hs : src ρ = .ok (rngD lo n) ρ1) (hl : n ≤ 100000)
    (hb : ∀ x, x < n → ∃ ρ2, tt ((ρ1.set v none).set v (some (.p (.int (lo + (x : Nat)))))) = .ok (pr x) ρ2 ∧ (pr x = true → ∃ ρ3 r', elt ρ2 = .ok r' ρ3 ∧ (frz r' ρ3).set v none = ρ1.set v none ∧ view ρ3 r' = el (fx x)) ∧ (pr x = false → ρ2.set v none = ρ1.set v none))
    (h : Endg Q (f (.own (.l ((((List.range n).filter pr).map fx).map el))) ((ρ1.set v none).set v (ρ1[v]?.getD none)))) : Endg Q ((eLc src (gN v) tt elt [v] ρ).thn f) := by
  rw [lc_rfE el fx pr hs hl hb]
  exact h
/-- the list of way numbers closes and its sources differ -/
def Good (ws : List (Str × Str × Int)) (c : List Nat) : Prop := c ≠ [] ∧ c.length ≤ 13 ∧ (∀ i, i ∈ c → i < ws.length) ∧ (c.map fun i => (wat ws i).1).Nodup ∧ Cyc (fun i => (wat ws i).1) (fun i => (wat ws i).2.1) c
theorem good_cut {ws : List (Str × Str × Int)} {path : List Nat} {p1 last : Str} {i j : Nat} (hpl : path.length ≤ 12) (hpw : ∀ i, i ∈ path → i < ws.length) (hi : i < ws.length)
    (hN : p1 :: path.map (fun i => (wat ws i).2.1) = path.map (fun i => (wat ws i).1) ++ [last]) (nd : (p1 :: path.map (fun i => (wat ws i).2.1)).Nodup) (hs : (wat ws i).1 = last)
    (hj : (p1 :: path.map (fun i => (wat ws i).2.1))[j]? = some (wat ws i).2.1) : Good ws ((path ++ [i]).drop j) := by
  obtain ⟨hjl, hj2⟩ := List.getElem?_eq_some_iff.mp hj
  have hjl' : j ≤ path.length := by simpa using Nat.le_of_lt_succ (by simpa using hjl)
  have e1 : ((path ++ [i]).drop j).map (fun i => (wat ws i).1) = (p1 :: path.map (fun i => (wat ws i).2.1)).drop j := by
    rw [hN, List.map_drop, List.map_append, ← hs]; rfl
  have e2 : (p1 :: path.map (fun i => (wat ws i).2.1)).drop j = (wat ws i).2.1 :: (path.map (fun i => (wat ws i).2.1)).drop j := by
    rw [List.drop_eq_getElem_cons hjl, hj2]; rfl
  refine ⟨fun h => ?_, by simp; omega, fun k hk => ?_, ?_, (wat ws i).2.1, (path.map (fun i => (wat ws i).2.1)).drop j, by rw [e1, e2], ?_⟩
  · have := congrArg List.length h
    simp at this
    omega
  · rcases List.mem_append.mp (List.mem_of_mem_drop hk) with h | h
    · exact hpw k h
    · have : k = i := by simpa using h
      omega
  · rw [e1]; exact nd.sublist (List.drop_sublist _ _)
  · rw [List.map_drop, List.map_append, List.drop_append_of_le_length (by simpa using hjl')]; rfl
set_option maxHeartbeats 0 in
theorem walk_ok (ms : List Int) (at_ : Int) (hm : Num ms) (a0 : 0 ≤ at_) (hl : at_ + 13 ≤ ms.length) {ks : List (Str × Int × Int)} {ws : List (Str × Str × Int)} (hk : KindsOk ks) (hw : WaysOk ks ws) :
    ∃ sv, fn_u_law_walk [.lst (ms.map .int), .int at_, .lst (ks.map kd), .lst (ws.map wd)] = .ok sv ∧ ∃ c : List Nat, sv = .l (c.map fun i : Nat => D.int i) ∧ (c = [] ∨ Good ws c) := by
    refine run0_wpQ rfl fun Q hQ => ?_
    show Endg Q (G_u_law_walk [some (.p (.lst (ms.map .int))), some (.p (.int at_)), some (.p (.lst (ks.map kd))), some (.p (.lst (ws.map wd))), none, none, none, none, none, none])
    unfold G_u_law_walk
    have pk := fun i c h0 h1 hc => pick_ok ms i c h0 h1 hc
    obtain ⟨k1, k2, kk3, _⟩ := id hk
    obtain ⟨w1, w2⟩ := id hw
    have q1 := Int.emod_nonneg (at0 ms at_) (b := ks.length) (by omega)
    have q2 := Int.emod_lt_of_pos (at0 ms at_) (b := ks.length) (by omega)
    have ix1 := fun ρ => ixR_lst (ρ := ρ) (el := kd) (xs := ks) (i := at0 ms at_ % (ks.length : Int)) q1 (by omega)
    generalize ks[(at0 ms at_ % (ks.length : Int)).toNat]'(by omega) = p1 at ix1
    have hKl : (ks.map kd).length = ks.length := List.length_map ..
    have lenw : fLen [.lst (ws.map wd)] = some (.int (ws.length : Nat)) := by rw [fLen_lst, List.length_map]
    have ixw : ∀ (i : Nat) ρ, i < ws.length → ixR (.lst (ws.map wd)) (i : Int) ρ = .ok (.d (wd (wat ws i))) ρ := fun i ρ h => ixR_at (wat_get h) ρ
    have ww0 := fun w ρ => wd_0 (w := w) ρ
    have ww1 := fun w ρ => wd_1 (w := w) ρ
    generalize ms.map D.int = MS at pk ⊢
    generalize ks.map kd = KS at ix1 hKl ⊢
    rw [← hKl] at ix1
    have hKp : 0 < (KS.length : Int) := by omega
    generalize ws.map wd = WS at lenw ixw ⊢
    refine hide2 fun RT hRT => ?_
    simp (disch := omega) [pk, ix1, kd]
    subst hRT
    refine hide1 fun RT hRT => ?_
    simp
    refine forB (fun i ρ => ∃ (path : List Nat) (last : Str) (a b c : Option SV), path.length = i ∧ (∀ i, i ∈ path → i < ws.length) ∧ p1.1 :: path.map (fun i => (wat ws i).2.1) = path.map (fun i => (wat ws i).1) ++ [last] ∧ (p1.1 :: path.map (fun i => (wat ws i).2.1)).Nodup ∧
      ρ = [some (.p (.lst MS)), some (.p (.int at_)), some (.p (.lst KS)), some (.p (.lst WS)), some (.l ((p1.1 :: path.map (fun i => (wat ws i).2.1)).map .str)), some (.l (path.map fun i : Nat => D.int i)), a, b, c, none]) ⟨[], p1.1, none, none, none, rfl, by simp, rfl, by simp, rfl⟩ ?_ ?_
    · rintro i d0 ρ hi ⟨path, last, a, b, c, hpl, hpw, hN, nd, rfl⟩
      have hil := (List.getElem?_eq_some_iff.mp hi).1
      rw [rngD_len] at hil
      have hi6 : i < 12 := hil
      have := rngD_get hi
      subst this
      refine ⟨_, rfl, fun Q1 q1 q2 q3 q4 => ?_⟩
      have hla : (p1.1 :: path.map (fun i => (wat ws i).2.1)).getLast? = some last := by rw [hN]; simp
      have ixl := fun ρ => ixR_last (el := D.str) hla ρ
      have hin : ∀ s, oIn (.str s) (.lst ((p1.1 :: path.map (fun i => (wat ws i).2.1)).map .str)) = some (.bl (decide (s ∈ (p1.1 :: path.map (fun i => (wat ws i).2.1))))) := fun s => oIn_strs
      have hlit := @litems_strs (p1.1 :: path.map (fun i => (wat ws i).2.1))
      have hNl : ((p1.1 :: path.map (fun i => (wat ws i).2.1)).map D.str).length < 100000 := by simp; omega
      generalize hNM : (p1.1 :: path.map (fun i => (wat ws i).2.1)).map D.str = NM at ixl hin hlit hNl q1 ⊢
      simp only [sSeq_ev, sSet_ev, thn_bind, List.set_cons_succ, List.set_cons_zero]
      refine lc_rf (fun n : Nat => D.int n) (fun j => j) (fun j => decide ((wat ws j).1 = last)) (lo := 0) (n := ws.length) (by rw [iRng1_ev]; simp [lenw]; exact rng1R_ev (n := (ws.length : Nat)) (by omega) (by omega)) (by omega) (fun j hj => ?_) ?_
      · have f0 := ww0 (wat ws j)
        have e1 := fun ρ => ixw j ρ hj
        generalize wat ws j = w at f0 e1 ⊢
        generalize wd w = WD at f0 e1 ⊢
        exact ⟨_, by simp [f0, e1, ixl]; exact rfl, fun _ => ⟨_, _, by simp; exact ⟨rfl, rfl⟩, by simp, by simp⟩, fun _ => by simp⟩
      rw [List.map_id']
      have fsm : ∀ j, j ∈ ((List.range ws.length).filter fun j => decide ((wat ws j).1 = last)) → j < ws.length ∧ (wat ws j).1 = last := fun j h => ⟨List.mem_range.mp (List.mem_filter.mp h).1, by simpa using (List.mem_filter.mp h).2⟩
      generalize ((List.range ws.length).filter fun j => decide ((wat ws j).1 = last)) = fs at fsm ⊢
      have hFl : (fs.map fun n : Nat => D.int n).length = fs.length := List.length_map ..
      have hPl : (path.map fun i : Nat => D.int i).length < 100000 := by rw [List.length_map]; omega
      by_cases hf : fs.length = 0
      · have : fs = [] := List.length_eq_zero_iff.mp hf
        subst this
        simp
        refine q4 _ _ ?_
        subst hQ
        exact ⟨[], rfl, .inl rfl⟩
      · have r1' := Int.emod_nonneg (at0 ms (at_ + 1 + i)) (b := fs.length) (by omega)
        have r2' := Int.emod_lt_of_pos (at0 ms (at_ + 1 + i)) (b := fs.length) (by omega)
        have ixf := fun ρ => ixR_lst (ρ := ρ) (el := fun n : Nat => D.int n) (xs := fs) (i := at0 ms (at_ + 1 + i) % (fs.length : Int)) r1' (by omega)
        have fm := fsm _ (List.getElem_mem (l := fs) (n := (at0 ms (at_ + 1 + i) % (fs.length : Int)).toNat) (by omega))
        generalize fs[(at0 ms (at_ + 1 + i) % (fs.length : Int)).toNat]'(by omega) = w at ixf fm
        have ixp := fun ρ => ixR_last (el := fun n : Nat => D.int n) (xs := path ++ [w]) (x := w) (by simp) ρ
        have hpath : (path.map fun n : Nat => D.int n) ++ [.int w] = (path ++ [w]).map fun n : Nat => D.int n := by simp
        have f1 := ww1 (wat ws w)
        have e1 := fun ρ => ixw w ρ fm.1
        have gc := fun j => good_cut (j := j) (by omega) hpw fm.1 hN nd fm.2
        generalize hF : (fs.map fun n : Nat => D.int n) = F at ixf hFl ⊢
        have hf' : ¬ F.length = 0 := by omega
        have hf2 : ¬ F = [] := fun z => hf' (by rw [z]; rfl)
        have hf3 : 0 < (F.length : Int) := by omega
        rw [← hFl] at ixf
        by_cases hmem : (wat ws w).2.1 ∈ (p1.1 :: path.map (fun i => (wat ws i).2.1))
        · have hin' := hin (wat ws w).2.1
          rw [decide_eq_true hmem] at hin'
          obtain ⟨j, hj1, hj2⟩ := idx_strs hmem
          have hcut := cut_from (el := fun n : Nat => D.int n) (xs := path ++ [w]) (k := (j : Int)) (by omega)
          rw [Int.toNat_natCast] at hcut
          have gcl := gc j hj2
          have hlt : (D.lst NM).litems = some NM := rfl
          have hfl : flats NM = some ((p1.1 :: path.map (fun i => (wat ws i).2.1)).map V.str) := hlit
          generalize hcl : (path ++ [w]).drop j = cl at gcl hcut
          generalize ((p1.1 :: path.map (fun i => (wat ws i).2.1)).map V.str) = vn at hfl hj1
          rw [← hpath] at hcut ixp
          generalize (path.map fun n : Nat => D.int n) = PM at hPl hcut ixp ⊢
          generalize hww : wat ws w = ww at *
          generalize hWD : wd ww = WD at e1 f1
          simp (disch := omega) [pk, ixf, hf', hf2, hPl, ixp, e1, f1, hin', eIndex_ev, hlt, hfl, D.flat, hj1, hcut]
          refine q4 _ _ ?_
          subst hQ
          exact ⟨cl, rfl, .inr gcl⟩
        · have hin' := hin (wat ws w).2.1
          rw [decide_eq_false hmem] at hin'
          rw [← hpath] at ixp
          have hnew : NM ++ [D.str (wat ws w).2.1] = (p1.1 :: (path ++ [w]).map (fun i => (wat ws i).2.1)).map D.str := by rw [← hNM]; simp
          have q1' := fun b c d => q1 _ ⟨path ++ [w], (wat ws w).2.1, b, c, d, by simp [hpl], fun k h => by
            rcases List.mem_append.mp h with h | h
            · exact hpw k h
            · have : k = w := by simpa using h
              omega, by rw [List.map_append, List.map_append, ← List.cons_append, hN, ← fm.2]; rfl, by
              rw [List.map_append, ← List.cons_append]
              refine List.nodup_append.mpr ⟨nd, by simp, fun x hx y hy => ?_⟩
              have : y = (wat ws w).2.1 := by simpa using hy
              rintro rfl
              exact hmem (this ▸ hx), rfl⟩
          rw [← hnew, ← hpath] at q1'
          generalize (path.map fun n : Nat => D.int n) = PM at hPl ixp q1' ⊢
          generalize hww : wat ws w = ww at *
          generalize hWD : wd ww = WD at e1 f1
          simp (disch := omega) [pk, ixf, hf', hf2, hPl, ixp, e1, f1, hin', hNl]
          exact q1' _ _ _
    · rintro ρ ⟨path, last, a, b, c, hpl, hpw, hN, nd, rfl⟩
      subst hRT
      simp
      subst hQ
      exact ⟨[], rfl, .inl rfl⟩
theorem fMin_nats {xs : List Nat} (h : xs ≠ []) : fMin [.lst (xs.map fun n : Nat => D.int n)] = some (.int (minI (xs.map fun n : Nat => (n : Int)))) := by
  have e : (xs.map fun n : Nat => D.int n) = (xs.map fun n : Nat => (n : Int)).map .int := by rw [List.map_map]; rfl
  rw [e]
  show ((some ((xs.map fun n : Nat => (n : Int)).map D.int)).bind intsD).bind _ = _
  rw [Option.bind_some, intsD_ints]
  show (if 0 < (xs.map fun n : Nat => (n : Int)).length then _ else none) = _
  rw [if_pos (by rw [List.length_map]; exact List.length_pos_iff.mpr h)]
theorem idx_nats {xs : List Nat} {t : Int} (h : t ∈ xs.map fun n : Nat => (n : Int)) : ∃ j, (xs.map fun n : Nat => V.int n).findIdx? (fun z => eqV z (.int t)) = some j ∧ ∃ h : j < xs.length, ((xs[j] : Nat) : Int) = t := by
  cases e : (xs.map fun n : Nat => V.int n).findIdx? (fun z => eqV z (.int t)) with
  | none =>
    exfalso
    obtain ⟨n, h1, rfl⟩ := List.mem_map.mp h
    have := List.findIdx?_eq_none_iff.mp e (.int n) (List.mem_map.mpr ⟨n, h1, rfl⟩)
    simp [eqV] at this
  | some j =>
    obtain ⟨h1, h2, _⟩ := List.findIdx?_eq_some_iff_getElem.mp e
    have hl : j < xs.length := by simpa using h1
    simp [eqV] at h2
    exact ⟨j, rfl, hl, h2⟩
set_option maxHeartbeats 0 in
theorem turned_ok {ks : List (Str × Int × Int)} {ws : List (Str × Str × Int)} (hk : KindsOk ks) (hw : WaysOk ks ws) {c : List Nat} (h0 : c ≠ []) (hl : c.length ≤ 100) (hm : ∀ i, i ∈ c → i < ws.length) :
    ∃ sv, fn_u_law_turned [.lst (ks.map kd), .lst (ws.map wd), .lst (c.map fun i : Nat => D.int i)] = .ok sv ∧ ∃ f, ∃ h : f < c.length, (∀ i, i ∈ c → ka ks ws (c[f]'h) ≤ ka ks ws i) ∧ sv = .l ((c.drop f ++ c.take f).map fun i : Nat => D.int i) := by
    refine run0_wpQ rfl fun Q hQ => ?_
    show Endg Q (G_u_law_turned [some (.p (.lst (ks.map kd))), some (.p (.lst (ws.map wd))), some (.p (.lst (c.map fun i : Nat => D.int i))), none, none, none])
    unfold G_u_law_turned
    have k2 := hk.2.1
    have ixw : ∀ (i : Nat) ρ, i < ws.length → ixR (.lst (ws.map wd)) (i : Int) ρ = .ok (.d (wd (wat ws i))) ρ := fun i ρ h => ixR_at (wat_get h) ρ
    have w0 := fun w ρ => wd_0 (w := w) ρ
    have nb := fun {s : Str} (hs : s ∈ ks.map (·.1)) => number_ok (ks := ks) hs (by omega)
    generalize ks.map kd = KS at nb ⊢
    generalize ws.map wd = WS at ixw ⊢
    simp
    refine lc_seq (ex := fun i : Nat => D.int i) (fun n : Nat => D.int n) (ka ks ws) (xs := c) (by simp; exact ⟨rfl, rfl⟩) (by simp) rfl (by omega) (fun i hi => ?_) ?_
    · have e1 := fun ρ => ixw i ρ (hm i hi)
      have n1 := nb (src_mem hw (hm i hi)).1
      generalize hw1 : wat ws i = x1 at *
      have w01 := w0 x1
      have ek : ka ks ws i = kix ks x1.1 := by unfold ka; rw [hw1]
      generalize wd x1 = WD at *
      exact ⟨_, _, by simp [e1, w01, n1]; exact ⟨rfl, rfl⟩, by simp, by simp [ek]⟩
    have ne : c.map (ka ks ws) ≠ [] := fun e => h0 (List.map_eq_nil_iff.mp e)
    have fm := fMin_nats ne
    have mm := minI_mem (ns := (c.map (ka ks ws)).map fun n : Nat => (n : Int)) (by rw [List.length_map]; exact List.length_pos_iff.mpr ne)
    have ml := fun y => minI_le (ns := (c.map (ka ks ws)).map fun n : Nat => (n : Int)) (y := y)
    generalize minI ((c.map (ka ks ws)).map fun n : Nat => (n : Int)) = mn at fm mm ml
    obtain ⟨j, hj, hjl, hje⟩ := idx_nats mm
    have hfl := flats_nats (vis := c.map (ka ks ws))
    have hjc : j < c.length := by simpa using hjl
    have hcf := cut_from (el := fun n : Nat => D.int n) (xs := c) (k := (j : Int)) (by omega)
    have hct := cut_to (el := fun n : Nat => D.int n) (xs := c) (k := (j : Int)) (by omega)
    rw [Int.toNat_natCast] at hcf hct
    have la : ((c.drop j).map fun n : Nat => D.int n).length + ((c.take j).map fun n : Nat => D.int n).length ≤ 100000 := by simp; omega
    have li : ∀ xs : List D, (D.lst xs).litems = some xs := fun _ => rfl
    have fin : ∃ f, ∃ h : f < c.length, (∀ i, i ∈ c → ka ks ws (c[f]'h) ≤ ka ks ws i) ∧ SV.l (((c.drop j).map fun n : Nat => D.int n) ++ ((c.take j).map fun n : Nat => D.int n)) = .l ((c.drop f ++ c.take f).map fun i : Nat => D.int i) := ⟨j, hjc, fun i hi => by
      have := ml (ka ks ws i : Nat) (List.mem_map.mpr ⟨_, List.mem_map.mpr ⟨i, hi, rfl⟩, rfl⟩)
      rw [← hje] at this
      simp at this
      exact this, by rw [List.map_append]⟩
    generalize ((c.map (ka ks ws)).map fun n : Nat => V.int n) = VN at hfl hj
    generalize ((c.map (ka ks ws)).map fun n : Nat => D.int n) = S at fm hfl ⊢
    generalize (c.map fun i : Nat => D.int i) = CD at hcf hct ⊢
    generalize ((c.drop j).map fun n : Nat => D.int n) = X1 at *
    generalize ((c.take j).map fun n : Nat => D.int n) = X2 at *
    have pa : ∀ ρ, addR (.lst X1) (.lst X2) ρ = .ok (.own (.l (X1 ++ X2))) ρ := fun ρ => addR_lst la
    simp [fm, eIndex_ev, li, hfl, D.flat, hj, hcf, hct, pa]
    subst hQ
    exact fin
theorem NT : NameOk ("t" : Str) := by
  refine ⟨by decide +kernel, by decide +kernel, by decide +kernel⟩
def ent (a : Nat → Nat) (c : List Nat) : D := .tup [.int (hdK a c : Nat), pd c]
theorem pd_ints {c : List Nat} : pd c = .lst ((c.map fun i : Nat => (i : Int)).map .int) := by unfold pd; rw [List.map_map]; rfl
theorem pyOk_ints : ∀ {ns : List Int}, pyOkL (ns.map D.int) = true
  | [] => rfl
  | _ :: ns => by rw [List.map_cons]; show (true && pyOkL (ns.map D.int)) = true; rw [pyOk_ints]; rfl
theorem ent_py {a : Nat → Nat} {c : List Nat} : pyOk (ent a c) = true := by
  unfold ent; rw [pd_ints]
  show (true && (pyOkL _ && true)) = true
  rw [pyOk_ints]; rfl
theorem ltD_ent {a : Nat → Nat} {x y : List Nat} (h : hdK a x < hdK a y ∨ (hdK a x = hdK a y ∧ lx x y)) : oLtD (ent a x) (ent a y) = some (.bl true) := by
  have ok : geOk (ent a x) (ent a y) = true := by
    unfold geOk
    simp only [Bool.and_eq_true, decide_eq_true_eq]
    refine ⟨⟨⟨⟨ent_py, ent_py⟩, ?_⟩, ?_⟩, rfl⟩
    · unfold ent; rw [pd_ints, pd_ints]
      show (true && (PySem.W.alikeAll (toPyL _) (toPyL _) && true)) = true
      rw [alikeAll_ints]; rfl
    · have : dokN 2 (ent a x) := dokN_tup (k := 1) fun d hd => by
        simp at hd
        rcases hd with rfl | rfl
        · exact dokN_int
        · rw [pd_ints]; exact dokN_lst (k := 0) fun d hd => by
            obtain ⟨n, _, rfl⟩ := List.mem_map.mp hd
            exact dokN_int
      exact Nat.le_trans this.2.2 (by decide)
  unfold oLtD
  rw [if_pos ok]
  have e := congrFun (congrFun (dataLe_ir (fun c : List Nat => (hdK a c : Int)) fun c => c.map fun i : Nat => (i : Int)) y) x
  have e2 : (!PySem.W.dataLt (toPy (ent a x)) (toPy (ent a y))) = decide ((hdK a y : Int) < (hdK a x : Int) ∨ ((hdK a y : Int) = (hdK a x : Int) ∧ y.map (fun i : Nat => (i : Int)) ≤ x.map fun i : Nat => (i : Int))) := by
    rw [← e]
    unfold ent
    rw [pd_ints, pd_ints]
    rfl
  have ff : ¬ ((hdK a y : Int) < (hdK a x : Int) ∨ ((hdK a y : Int) = (hdK a x : Int) ∧ y.map (fun i : Nat => (i : Int)) ≤ x.map fun i : Nat => (i : Int))) := by
    rintro (h2 | ⟨h2, h3⟩)
    · omega
    · rcases h with h | h
      · omega
      · exact absurd (lx_lt h.2) h3
  rw [decide_eq_false ff] at e2
  cases hx : PySem.W.dataLt (toPy (ent a x)) (toPy (ent a y))
  · rw [hx] at e2; cases e2
  · rfl
theorem pd_dok (c : List Nat) : dok (pd c) = true := by
  rw [pd_ints]
  exact (dokN_lst (k := 0) fun d hd => by
    obtain ⟨n, _, rfl⟩ := List.mem_map.mp hd
    exact dokN_int).dok (by decide)
theorem inD_pd {C : List (List Nat)} {q : List Nat} (h : q ∈ C) : oInD (pd q) (.lst (C.map pd)) = some (.bl true) := by
  have dokc : FP.dok (.lst (C.map pd)) = true := (dokN_lst (k := 1) fun d hd => by
      obtain ⟨c, _, rfl⟩ := List.mem_map.mp hd
      rw [pd_ints]
      exact dokN_lst (k := 0) fun d hd => by
        obtain ⟨n, _, rfl⟩ := List.mem_map.mp hd
        exact dokN_int).dok (by decide)
  show (if dok (pd q) = true ∧ dok (.lst (C.map pd)) = true then some (D.bl (inD (pd q) (C.map pd))) else none) = _
  rw [if_pos ⟨pd_dok q, dokc⟩]
  have : inD (pd q) (C.map pd) = true := by
    unfold inD
    rw [List.any_eq_true]
    exact ⟨pd q, List.mem_map.mpr ⟨q, h, rfl⟩, SeqAt.eqv_refl (toPy (pd q)) (SeqAt.canLay_of_shaped (dok_and (pd_dok q)).2)⟩
  rw [this]
theorem hdK_nt {a : Nat → Nat} {c : List Nat} : hdK a c = a (nt c 0) := by
  unfold hdK nt
  cases c <;> rfl
set_option maxHeartbeats 0 in
theorem law_true (a_Task : Addr) (ns : List Int) (hl : ns.length ≤ 63) : fn_law a_Task [.frz (ns.map .int)] = .ok (.p (.bl true)) := by
  obtain ⟨sv, h1, h2⟩ : ∃ sv, fn_law a_Task [.frz (ns.map .int)] = .ok sv ∧ sv = .p (.bl true) := by
    refine run0_wpQ rfl fun Q hQ => ?_
    show Endg Q (G_law a_Task [some (.p (.frz (ns.map .int))), none, none, none, none, none, none, none, none])
    unfold G_law
    obtain ⟨_, e1, ms, rfl, lm, hm⟩ := numbers_ok ns 67 hl (by omega) (by omega)
    have lm' : ms.length = 67 := lm
    obtain ⟨_, e2, ks, rfl, hk, hk6, hkb⟩ := kinds_ok ms 0 6 hm (by omega) (by omega) (by omega) (by omega) (by omega)
    obtain ⟨_, e3, ws, rfl, hw, hw12, hwb⟩ := ways_ok ms 13 12 hm (by omega) (by omega) (by omega) (by omega) ks hk
    obtain ⟨_, e4, c, rfl, hc⟩ := walk_ok ms 50 hm (by omega) (by omega) hk hw
    have hk6' : ks.length ≤ 6 := by omega
    have hw12' : ws.length ≤ 12 := by omega
    have cl : (circ ks ws).length < 50000 := by
      have b1 := circA_bound (a := ka ks ws) (b := kb ks ws) (W := ws.length) (K := ks.length)
      rw [← circ_A] at b1
      have b2 : 2 ^ ws.length ≤ 2 ^ 12 := Nat.pow_le_pow_right (by omega) hw12'
      have b3 := Nat.mul_le_mul hk6' b2
      have b4 : 6 * 2 ^ 12 = 24576 := by decide
      omega
    have e5 := task_new (a_Task := a_Task) NT hk hw
    have l5 := @lf_task a_Task ("t" : Str) ks ws
    have e6 := circuits_ok (a_Task := a_Task) (tf_mk (n := "t")) hk hw cl
    have ci := fun c (h : c ∈ circ ks ws) => is_circuit_ok hk hw (c := c) (circ_mem h).1 (by have := (circ_mem h).2.1; omega) (circ_mem h).2.2 (circ_closes (circ_A ▸ h))
    have srt : (circ ks ws).Pairwise fun x y => hdK (ka ks ws) x < hdK (ka ks ws) y ∨ (hdK (ka ks ws) x = hdK (ka ks ws) y ∧ lx x y) := by rw [circ_A]; exact circA_sorted
    have lk : lfL (ks.map kd) = true := lf_kd
    have lw : lfL (ws.map wd) = true := lf_wd
    have lms : lfL (ms.map D.int) = true := lfL_ints
    have lc : lfL (c.map fun i : Nat => D.int i) = true := lfL_map fun _ _ => rfl
    have lCC : ((circ ks ws).map pd).length = (circ ks ws).length := List.length_map ..
    have lcl : (c.map fun i : Nat => D.int i).length = c.length := List.length_map ..
    have ixw : ∀ (i : Nat) ρ, i < ws.length → ixR (.lst (ws.map wd)) (i : Int) ρ = .ok (.d (wd (wat ws i))) ρ := fun i ρ h => ixR_at (wat_get h) ρ
    have w0 := fun w ρ => wd_0 (w := w) ρ
    have nb := fun {s : Str} (hs : s ∈ ks.map (·.1)) => number_ok (ks := ks) hs (by omega)
    have tu : Good ws c → ∃ t, t ∈ circ ks ws ∧ fn_u_law_turned [.lst (ks.map kd), .lst (ws.map wd), .lst (c.map fun i : Nat => D.int i)] = .ok (.l (t.map fun i : Nat => D.int i)) := fun g => by
      obtain ⟨g1, g2, g3, g4, g5⟩ := g
      obtain ⟨_, t1, f, hf, t2, rfl⟩ := turned_ok hk hw g1 (by omega) g3
      refine ⟨_, ?_, t1⟩
      rw [circ_A]
      refine turned_mem (a := ka ks ws) (b := kb ks ws) (g5.comp (kix ks)) g3 (fun i hi => kix_lt (src_mem hw hi).1) ?_ hf t2
      have : c.map (ka ks ws) = (c.map fun i => (wat ws i).1).map (kix ks) := by rw [List.map_map]; rfl
      rw [this]
      refine List.pairwise_map.mpr (List.Pairwise.imp_of_mem ?_ g4)
      intro x y hx hy hne e
      obtain ⟨i, hi, rfl⟩ := List.mem_map.mp hx
      obtain ⟨j, hj, rfl⟩ := List.mem_map.mp hy
      exact hne (kix_inj (src_mem hw (g3 i hi)).1 (src_mem hw (g3 j hj)).1 e)
    generalize taskF "t" ks ws = tf at e5 e6 l5
    generalize ns.map D.int = NS at e1 ⊢
    generalize ms.map D.int = MS at e1 e2 e3 e4 lms ⊢
    generalize ks.map kd = KS at e2 e3 e4 e5 lk ci nb tu
    generalize ws.map wd = WS at e3 e4 e5 lw ci ixw tu
    refine hide4 fun RT hRT => ?_
    simp (disch := omega) [e1, e2, e3, e4, lms, lk, lw, lc]
    subst hRT
    refine hide3 fun RT hRT => ?_
    simp (disch := omega) [e5, e6, l5, lk, lw, lc]
    subst hRT
    refine hide1 fun RT hRT => ?_
    simp
    refine endg_bind (forL_wp (fun i ρ => ∃ a : Option SV, ρ = [some (.p (.frz NS)), some (.l MS), some (.l KS), some (.l WS), some (.l (c.map fun i : Nat => D.int i)), some (.p (.lst ((circ ks ws).map pd))), some (.l (((circ ks ws).take i).map (ent (ka ks ws)))), a, none]) ⟨none, by simp⟩ ?_ ?_)
    · rintro i d ρ hi ⟨a, rfl⟩
      obtain ⟨c1, hc1, rfl⟩ := get_map hi
      have m := List.mem_of_getElem? hc1
      have hil := (List.getElem?_eq_some_iff.mp hc1).1
      refine ⟨_, rfl, ?_⟩
      have f1 := ci c1 m
      have c0 : 0 < c1.length := List.length_pos_iff.mpr (circ_mem m).1
      have lt0 : nt c1 0 < ws.length := (circ_mem m).2.2 _ (by simp [nt, List.getElem?_eq_getElem c0])
      have ixc : ∀ ρ, ixR (pd c1) 0 ρ = .ok (.d (.int (nt c1 0 : Nat))) ρ := fun ρ => ixR_at (el := fun i : Nat => D.int i) (i := 0) (by rw [List.getElem?_eq_getElem c0]; unfold nt; rw [List.getElem?_eq_getElem c0]; rfl) ρ
      have f2 := fun ρ => ixw _ ρ lt0
      have n1 := nb (src_mem hw lt0).1
      have w01 := w0 (wat ws (nt c1 0))
      have ee : ent (ka ks ws) c1 = .tup [.int (kix ks (wat ws (nt c1 0)).1 : Nat), pd c1] := by unfold ent; rw [hdK_nt]; rfl
      have pe : pd c1 = .lst (c1.map fun i : Nat => D.int i) := rfl
      have lx1 : (c1.map fun i : Nat => D.int i).length ≤ 100 := by rw [List.length_map]; have := (circ_mem m).2.1; omega
      have ll1 : lfL (c1.map fun i : Nat => D.int i) = true := lfL_map fun _ _ => rfl
      have nx : ((circ ks ws).take (i + 1)).map (ent (ka ks ws)) = ((circ ks ws).take i).map (ent (ka ks ws)) ++ [ent (ka ks ws) c1] := by rw [take_snoc hc1, List.map_append]; rfl
      have l6 : (((circ ks ws).take i).map (ent (ka ks ws))).length < 100000 := by rw [List.length_map, List.length_take]; omega
      rw [nx]
      generalize ((circ ks ws).take i).map (ent (ka ks ws)) = K6 at l6 ⊢
      generalize (circ ks ws).map pd = CD
      generalize (c.map fun i : Nat => D.int i) = CP
      generalize wat ws (nt c1 0) = w at *
      generalize wd w = WD at f2 w01
      rw [ee]
      rw [pe] at f1 ixc ⊢
      generalize (c1.map fun i : Nat => D.int i) = C1 at *
      simp (disch := omega) [f1, f2, n1, w01, ixc, ll1, l6]
      exact ⟨_, rfl⟩
    · rintro ρ ⟨a, rfl⟩
      rw [List.length_map, List.take_length]
      subst hRT
      have ixk : ∀ (i : Nat) ρ x, (circ ks ws)[i]? = some x → ixR (.lst ((circ ks ws).map (ent (ka ks ws)))) (i : Int) ρ = .ok (.d (ent (ka ks ws) x)) ρ := fun i ρ x h => ixR_at h ρ
      have lck : ((circ ks ws).map (ent (ka ks ws))).length = (circ ks ws).length := List.length_map ..
      have lt : ∀ i x y, (circ ks ws)[i]? = some x → (circ ks ws)[i + 1]? = some y → oLtD (ent (ka ks ws) x) (ent (ka ks ws) y) = some (.bl true) := fun i x y hx hy => by
        obtain ⟨k1, g1⟩ := List.getElem?_eq_some_iff.mp hx
        obtain ⟨k2, g2⟩ := List.getElem?_eq_some_iff.mp hy
        have := List.pairwise_iff_getElem.mp srt i (i + 1) k1 k2 (by omega)
        rw [g1, g2] at this
        exact ltD_ent this
      generalize (circ ks ws).map (ent (ka ks ws)) = KY at ixk lck ⊢
      refine hide1 fun RT hRT => ?_
      simp (disch := omega)
      refine endg_bind (forL_wp (fun i ρ => ∃ b : Option SV, ρ = [some (.p (.frz NS)), some (.l MS), some (.l KS), some (.l WS), some (.l (c.map fun i : Nat => D.int i)), some (.p (.lst ((circ ks ws).map pd))), some (.l KY), a, b]) ⟨none, rfl⟩ ?_ ?_)
      · rintro i d ρ hi ⟨b, rfl⟩
        have hil := (List.getElem?_eq_some_iff.mp hi).1
        rw [rngD_len] at hil
        have := rngD_get hi
        subst this
        refine ⟨_, rfl, ?_⟩
        have h1 : i < (circ ks ws).length := by omega
        have h2 : i + 1 < (circ ks ws).length := by omega
        have x1 := fun ρ => ixk i ρ _ (List.getElem?_eq_getElem h1)
        have x2 := fun ρ => ixk (i + 1) ρ _ (List.getElem?_eq_getElem h2)
        have x3 := lt i _ _ (List.getElem?_eq_getElem h1) (List.getElem?_eq_getElem h2)
        rw [Int.natCast_add, Int.natCast_one] at x2
        generalize ent (ka ks ws) _ = X1 at x1 x3
        generalize ent (ka ks ws) _ = X2 at x2 x3
        generalize (circ ks ws).map pd = CD
        generalize (c.map fun i : Nat => D.int i) = CP
        simp (disch := omega) [x1, x2, x3]
        exact ⟨_, rfl⟩
      · rintro ρ ⟨b, rfl⟩
        subst hRT
        rcases hc with rfl | hc
        · simp
          subst hQ; rfl
        · obtain ⟨t, t1, t2⟩ := tu hc
          have i1 := inD_pd t1
          have pe : pd t = .lst (t.map fun i : Nat => D.int i) := rfl
          rw [pe] at i1
          have lT : lfL (t.map fun i : Nat => D.int i) = true := lfL_map fun _ _ => rfl
          have cne : c ≠ [] := hc.1
          generalize (circ ks ws).map pd = CD at *
          generalize (t.map fun i : Nat => D.int i) = T at *
          have cne' : (c.map fun i : Nat => D.int i) ≠ [] := fun e => cne (List.map_eq_nil_iff.mp e)
          generalize (c.map fun i : Nat => D.int i) = CP at *
          simp (disch := omega) [t2, i1, cne', lT]
          subst hQ; rfl
  subst h2; exact h1
end Cl

namespace Cl
open PySem L2 FP
set_option maxHeartbeats 0 in
theorem all_mk {l : PySem.W.OpenLaw} {w : World} {K : PySem.W.Frag} {h : Heap} {mg : Str → Option Value} {fa : Addr} (X : K.In h) (G : h.Ns mainGlobals mg) (hfa : mg "law" = some (.ref fa)) {a_Task : Addr} {a_u_law_number : Addr} {od_u_law_number an_u_law_number : Option Addr} {sl_u_law_number : Array (Option Value)} {oc_u_law_number kV_u_law_number dc_u_law_number pm_u_law_number cd_u_law_number ct_u_law_number : Value} {a_u_law_turned : Addr} {od_u_law_turned an_u_law_turned : Option Addr} {sl_u_law_turned : Array (Option Value)} {oc_u_law_turned kV_u_law_turned dc_u_law_turned pm_u_law_turned cd_u_law_turned ct_u_law_turned : Value} {a_u_law_is_integer : Addr} {od_u_law_is_integer an_u_law_is_integer : Option Addr} {sl_u_law_is_integer : Array (Option Value)} {oc_u_law_is_integer kV_u_law_is_integer dc_u_law_is_integer pm_u_law_is_integer cd_u_law_is_integer ct_u_law_is_integer : Value} {a_u_law_is_circuit : Addr} {od_u_law_is_circuit an_u_law_is_circuit : Option Addr} {sl_u_law_is_circuit : Array (Option Value)} {oc_u_law_is_circuit kV_u_law_is_circuit dc_u_law_is_circuit pm_u_law_is_circuit cd_u_law_is_circuit ct_u_law_is_circuit : Value} {a_are_ways : Addr} {od_are_ways an_are_ways : Option Addr} {sl_are_ways : Array (Option Value)} {oc_are_ways kV_are_ways dc_are_ways pm_are_ways cd_are_ways ct_are_ways : Value} {a_is_name : Addr} {od_is_name an_is_name : Option Addr} {sl_is_name : Array (Option Value)} {oc_is_name kV_is_name dc_is_name pm_is_name cd_is_name ct_is_name : Value} {a_are_kinds : Addr} {od_are_kinds an_are_kinds : Option Addr} {sl_are_kinds : Array (Option Value)} {oc_are_kinds kV_are_kinds dc_are_kinds pm_are_kinds cd_are_kinds ct_are_kinds : Value} {a_Task___init__ : Addr} {od_Task___init__ an_Task___init__ : Option Addr} {sl_Task___init__ : Array (Option Value)} {oc_Task___init__ kV_Task___init__ dc_Task___init__ pm_Task___init__ cd_Task___init__ ct_Task___init__ : Value} {a_Task_kind_number : Addr} {od_Task_kind_number an_Task_kind_number : Option Addr} {sl_Task_kind_number : Array (Option Value)} {oc_Task_kind_number kV_Task_kind_number dc_Task_kind_number pm_Task_kind_number cd_Task_kind_number ct_Task_kind_number : Value} {a_extend_path : Addr} {od_extend_path an_extend_path : Option Addr} {sl_extend_path : Array (Option Value)} {oc_extend_path kV_extend_path dc_extend_path pm_extend_path cd_extend_path ct_extend_path : Value} {a_circuits : Addr} {od_circuits an_circuits : Option Addr} {sl_circuits : Array (Option Value)} {oc_circuits kV_circuits dc_circuits pm_circuits cd_circuits ct_circuits : Value} {a_u_law_pick : Addr} {od_u_law_pick an_u_law_pick : Option Addr} {sl_u_law_pick : Array (Option Value)} {oc_u_law_pick kV_u_law_pick dc_u_law_pick pm_u_law_pick cd_u_law_pick ct_u_law_pick : Value} {a_u_law_walk : Addr} {od_u_law_walk an_u_law_walk : Option Addr} {sl_u_law_walk : Array (Option Value)} {oc_u_law_walk kV_u_law_walk dc_u_law_walk pm_u_law_walk cd_u_law_walk ct_u_law_walk : Value} {a_u_law_ways : Addr} {od_u_law_ways an_u_law_ways : Option Addr} {sl_u_law_ways : Array (Option Value)} {oc_u_law_ways kV_u_law_ways dc_u_law_ways pm_u_law_ways cd_u_law_ways ct_u_law_ways : Value} {a_u_law_name : Addr} {od_u_law_name an_u_law_name : Option Addr} {sl_u_law_name : Array (Option Value)} {oc_u_law_name kV_u_law_name dc_u_law_name pm_u_law_name cd_u_law_name ct_u_law_name : Value} {a_u_law_scale : Addr} {od_u_law_scale an_u_law_scale : Option Addr} {sl_u_law_scale : Array (Option Value)} {oc_u_law_scale kV_u_law_scale dc_u_law_scale pm_u_law_scale cd_u_law_scale ct_u_law_scale : Value} {a_u_law_kinds : Addr} {od_u_law_kinds an_u_law_kinds : Option Addr} {sl_u_law_kinds : Array (Option Value)} {oc_u_law_kinds kV_u_law_kinds dc_u_law_kinds pm_u_law_kinds cd_u_law_kinds ct_u_law_kinds : Value} {a_u_law_row : Addr} {od_u_law_row an_u_law_row : Option Addr} {sl_u_law_row : Array (Option Value)} {oc_u_law_row kV_u_law_row dc_u_law_row pm_u_law_row cd_u_law_row ct_u_law_row : Value} {a_u_law_numbers : Addr} {od_u_law_numbers an_u_law_numbers : Option Addr} {sl_u_law_numbers : Array (Option Value)} {oc_u_law_numbers kV_u_law_numbers dc_u_law_numbers pm_u_law_numbers cd_u_law_numbers ct_u_law_numbers : Value} {a_law : Addr} {od_law an_law : Option Addr} {sl_law : Array (Option Value)} {oc_law kV_law dc_law pm_law cd_law ct_law : Value} {t_MOST_COST : Tok} {t_MOST_DEADLINE : Tok} {t_MOST_DISTANCE : Tok} {t_MOST_KINDS : Tok} {t_MOST_NAME_CHARS : Tok} {t_MOST_WAYS : Tok} {t_NAME_CHARS : Tok}
    (n_Task : PySem.W.nsIn K mainGlobals "Task" = some (some (.ref a_Task))) (pg_Task : PySem.W.plainGet K a_Task Str.empty = true) (hd_Task : PySem.W.hasDictIn K a_Task = true) (po_Task : PySem.W.plainOver K a_Task = true) (sa_Task : PySem.W.findIn K (.ref a_Task) "__setattr__" = some (some (.builtin "object.__setattr__")))
    (mk_Task : PySem.W.makesIn K a_Task = true) (kc_Task : PySem.W.keepIn K (.ref a_Task) = true)
    (na_Task_kinds : PySem.W.findIn K (.ref a_Task) "kinds" = some none)
    (na_Task_name : PySem.W.findIn K (.ref a_Task) "name" = some none)
    (na_Task_ways : PySem.W.findIn K (.ref a_Task) "ways" = some none)
    (n_u_law_number : PySem.W.nsIn K mainGlobals "_law_number" = some (some (.ref a_u_law_number)))
    (l_u_law_number : K.lookup a_u_law_number = some ⟨oc_u_law_number, od_u_law_number, .func (PySem.W.fnOf "_law_number" "_law_number" (defArgs s_u_law_number) (defBody s_u_law_number) (defScope s_u_law_number) .none kV_u_law_number dc_u_law_number pm_u_law_number an_u_law_number cd_u_law_number ct_u_law_number), sl_u_law_number⟩) (c_u_law_number : PySem.W.codeIn K cd_u_law_number "_law_number" = true) (k_u_law_number : PySem.W.keepIn K (.ref a_u_law_number) = true)
    (n_u_law_turned : PySem.W.nsIn K mainGlobals "_law_turned" = some (some (.ref a_u_law_turned)))
    (l_u_law_turned : K.lookup a_u_law_turned = some ⟨oc_u_law_turned, od_u_law_turned, .func (PySem.W.fnOf "_law_turned" "_law_turned" (defArgs s_u_law_turned) (defBody s_u_law_turned) (defScope s_u_law_turned) .none kV_u_law_turned dc_u_law_turned pm_u_law_turned an_u_law_turned cd_u_law_turned ct_u_law_turned), sl_u_law_turned⟩) (c_u_law_turned : PySem.W.codeIn K cd_u_law_turned "_law_turned" = true) (k_u_law_turned : PySem.W.keepIn K (.ref a_u_law_turned) = true)
    (n_u_law_is_integer : PySem.W.nsIn K mainGlobals "_law_is_integer" = some (some (.ref a_u_law_is_integer)))
    (l_u_law_is_integer : K.lookup a_u_law_is_integer = some ⟨oc_u_law_is_integer, od_u_law_is_integer, .func (PySem.W.fnOf "_law_is_integer" "_law_is_integer" (defArgs s_u_law_is_integer) (defBody s_u_law_is_integer) (defScope s_u_law_is_integer) .none kV_u_law_is_integer dc_u_law_is_integer pm_u_law_is_integer an_u_law_is_integer cd_u_law_is_integer ct_u_law_is_integer), sl_u_law_is_integer⟩) (c_u_law_is_integer : PySem.W.codeIn K cd_u_law_is_integer "_law_is_integer" = true) (k_u_law_is_integer : PySem.W.keepIn K (.ref a_u_law_is_integer) = true)
    (n_u_law_is_circuit : PySem.W.nsIn K mainGlobals "_law_is_circuit" = some (some (.ref a_u_law_is_circuit)))
    (l_u_law_is_circuit : K.lookup a_u_law_is_circuit = some ⟨oc_u_law_is_circuit, od_u_law_is_circuit, .func (PySem.W.fnOf "_law_is_circuit" "_law_is_circuit" (defArgs s_u_law_is_circuit) (defBody s_u_law_is_circuit) (defScope s_u_law_is_circuit) .none kV_u_law_is_circuit dc_u_law_is_circuit pm_u_law_is_circuit an_u_law_is_circuit cd_u_law_is_circuit ct_u_law_is_circuit), sl_u_law_is_circuit⟩) (c_u_law_is_circuit : PySem.W.codeIn K cd_u_law_is_circuit "_law_is_circuit" = true) (k_u_law_is_circuit : PySem.W.keepIn K (.ref a_u_law_is_circuit) = true)
    (n_are_ways : PySem.W.nsIn K mainGlobals "are_ways" = some (some (.ref a_are_ways)))
    (l_are_ways : K.lookup a_are_ways = some ⟨oc_are_ways, od_are_ways, .func (PySem.W.fnOf "are_ways" "are_ways" (defArgs s_are_ways) (defBody s_are_ways) (defScope s_are_ways) .none kV_are_ways dc_are_ways pm_are_ways an_are_ways cd_are_ways ct_are_ways), sl_are_ways⟩) (c_are_ways : PySem.W.codeIn K cd_are_ways "are_ways" = true) (k_are_ways : PySem.W.keepIn K (.ref a_are_ways) = true)
    (n_is_name : PySem.W.nsIn K mainGlobals "is_name" = some (some (.ref a_is_name)))
    (l_is_name : K.lookup a_is_name = some ⟨oc_is_name, od_is_name, .func (PySem.W.fnOf "is_name" "is_name" (defArgs s_is_name) (defBody s_is_name) (defScope s_is_name) .none kV_is_name dc_is_name pm_is_name an_is_name cd_is_name ct_is_name), sl_is_name⟩) (c_is_name : PySem.W.codeIn K cd_is_name "is_name" = true) (k_is_name : PySem.W.keepIn K (.ref a_is_name) = true)
    (n_are_kinds : PySem.W.nsIn K mainGlobals "are_kinds" = some (some (.ref a_are_kinds)))
    (l_are_kinds : K.lookup a_are_kinds = some ⟨oc_are_kinds, od_are_kinds, .func (PySem.W.fnOf "are_kinds" "are_kinds" (defArgs s_are_kinds) (defBody s_are_kinds) (defScope s_are_kinds) .none kV_are_kinds dc_are_kinds pm_are_kinds an_are_kinds cd_are_kinds ct_are_kinds), sl_are_kinds⟩) (c_are_kinds : PySem.W.codeIn K cd_are_kinds "are_kinds" = true) (k_are_kinds : PySem.W.keepIn K (.ref a_are_kinds) = true)
    (n_Task___init__ : PySem.W.findIn K (.ref a_Task) "__init__" = some (some (.ref a_Task___init__))) (i_Task___init__ : PySem.W.isFn K (.ref a_Task___init__) = true)
    (l_Task___init__ : K.lookup a_Task___init__ = some ⟨oc_Task___init__, od_Task___init__, .func (PySem.W.fnOf "__init__" "Task.__init__" (defArgs s_Task___init__) (defBody s_Task___init__) (defScope s_Task___init__) .none kV_Task___init__ dc_Task___init__ pm_Task___init__ an_Task___init__ cd_Task___init__ ct_Task___init__), sl_Task___init__⟩) (c_Task___init__ : PySem.W.codeIn K cd_Task___init__ "Task.__init__" = true) (k_Task___init__ : PySem.W.keepIn K (.ref a_Task___init__) = true)
    (n_Task_kind_number : PySem.W.findIn K (.ref a_Task) "kind_number" = some (some (.ref a_Task_kind_number))) (i_Task_kind_number : PySem.W.isFn K (.ref a_Task_kind_number) = true)
    (l_Task_kind_number : K.lookup a_Task_kind_number = some ⟨oc_Task_kind_number, od_Task_kind_number, .func (PySem.W.fnOf "kind_number" "Task.kind_number" (defArgs s_Task_kind_number) (defBody s_Task_kind_number) (defScope s_Task_kind_number) .none kV_Task_kind_number dc_Task_kind_number pm_Task_kind_number an_Task_kind_number cd_Task_kind_number ct_Task_kind_number), sl_Task_kind_number⟩) (c_Task_kind_number : PySem.W.codeIn K cd_Task_kind_number "Task.kind_number" = true) (k_Task_kind_number : PySem.W.keepIn K (.ref a_Task_kind_number) = true)
    (n_extend_path : PySem.W.nsIn K mainGlobals "extend_path" = some (some (.ref a_extend_path)))
    (l_extend_path : K.lookup a_extend_path = some ⟨oc_extend_path, od_extend_path, .func (PySem.W.fnOf "extend_path" "extend_path" (defArgs s_extend_path) (defBody s_extend_path) (defScope s_extend_path) .none kV_extend_path dc_extend_path pm_extend_path an_extend_path cd_extend_path ct_extend_path), sl_extend_path⟩) (c_extend_path : PySem.W.codeIn K cd_extend_path "extend_path" = true) (k_extend_path : PySem.W.keepIn K (.ref a_extend_path) = true)
    (n_circuits : PySem.W.nsIn K mainGlobals "circuits" = some (some (.ref a_circuits)))
    (l_circuits : K.lookup a_circuits = some ⟨oc_circuits, od_circuits, .func (PySem.W.fnOf "circuits" "circuits" (defArgs s_circuits) (defBody s_circuits) (defScope s_circuits) .none kV_circuits dc_circuits pm_circuits an_circuits cd_circuits ct_circuits), sl_circuits⟩) (c_circuits : PySem.W.codeIn K cd_circuits "circuits" = true) (k_circuits : PySem.W.keepIn K (.ref a_circuits) = true)
    (n_u_law_pick : PySem.W.nsIn K mainGlobals "_law_pick" = some (some (.ref a_u_law_pick)))
    (l_u_law_pick : K.lookup a_u_law_pick = some ⟨oc_u_law_pick, od_u_law_pick, .func (PySem.W.fnOf "_law_pick" "_law_pick" (defArgs s_u_law_pick) (defBody s_u_law_pick) (defScope s_u_law_pick) .none kV_u_law_pick dc_u_law_pick pm_u_law_pick an_u_law_pick cd_u_law_pick ct_u_law_pick), sl_u_law_pick⟩) (c_u_law_pick : PySem.W.codeIn K cd_u_law_pick "_law_pick" = true) (k_u_law_pick : PySem.W.keepIn K (.ref a_u_law_pick) = true)
    (n_u_law_walk : PySem.W.nsIn K mainGlobals "_law_walk" = some (some (.ref a_u_law_walk)))
    (l_u_law_walk : K.lookup a_u_law_walk = some ⟨oc_u_law_walk, od_u_law_walk, .func (PySem.W.fnOf "_law_walk" "_law_walk" (defArgs s_u_law_walk) (defBody s_u_law_walk) (defScope s_u_law_walk) .none kV_u_law_walk dc_u_law_walk pm_u_law_walk an_u_law_walk cd_u_law_walk ct_u_law_walk), sl_u_law_walk⟩) (c_u_law_walk : PySem.W.codeIn K cd_u_law_walk "_law_walk" = true) (k_u_law_walk : PySem.W.keepIn K (.ref a_u_law_walk) = true)
    (n_u_law_ways : PySem.W.nsIn K mainGlobals "_law_ways" = some (some (.ref a_u_law_ways)))
    (l_u_law_ways : K.lookup a_u_law_ways = some ⟨oc_u_law_ways, od_u_law_ways, .func (PySem.W.fnOf "_law_ways" "_law_ways" (defArgs s_u_law_ways) (defBody s_u_law_ways) (defScope s_u_law_ways) .none kV_u_law_ways dc_u_law_ways pm_u_law_ways an_u_law_ways cd_u_law_ways ct_u_law_ways), sl_u_law_ways⟩) (c_u_law_ways : PySem.W.codeIn K cd_u_law_ways "_law_ways" = true) (k_u_law_ways : PySem.W.keepIn K (.ref a_u_law_ways) = true)
    (n_u_law_name : PySem.W.nsIn K mainGlobals "_law_name" = some (some (.ref a_u_law_name)))
    (l_u_law_name : K.lookup a_u_law_name = some ⟨oc_u_law_name, od_u_law_name, .func (PySem.W.fnOf "_law_name" "_law_name" (defArgs s_u_law_name) (defBody s_u_law_name) (defScope s_u_law_name) .none kV_u_law_name dc_u_law_name pm_u_law_name an_u_law_name cd_u_law_name ct_u_law_name), sl_u_law_name⟩) (c_u_law_name : PySem.W.codeIn K cd_u_law_name "_law_name" = true) (k_u_law_name : PySem.W.keepIn K (.ref a_u_law_name) = true)
    (n_u_law_scale : PySem.W.nsIn K mainGlobals "_law_scale" = some (some (.ref a_u_law_scale)))
    (l_u_law_scale : K.lookup a_u_law_scale = some ⟨oc_u_law_scale, od_u_law_scale, .func (PySem.W.fnOf "_law_scale" "_law_scale" (defArgs s_u_law_scale) (defBody s_u_law_scale) (defScope s_u_law_scale) .none kV_u_law_scale dc_u_law_scale pm_u_law_scale an_u_law_scale cd_u_law_scale ct_u_law_scale), sl_u_law_scale⟩) (c_u_law_scale : PySem.W.codeIn K cd_u_law_scale "_law_scale" = true) (k_u_law_scale : PySem.W.keepIn K (.ref a_u_law_scale) = true)
    (n_u_law_kinds : PySem.W.nsIn K mainGlobals "_law_kinds" = some (some (.ref a_u_law_kinds)))
    (l_u_law_kinds : K.lookup a_u_law_kinds = some ⟨oc_u_law_kinds, od_u_law_kinds, .func (PySem.W.fnOf "_law_kinds" "_law_kinds" (defArgs s_u_law_kinds) (defBody s_u_law_kinds) (defScope s_u_law_kinds) .none kV_u_law_kinds dc_u_law_kinds pm_u_law_kinds an_u_law_kinds cd_u_law_kinds ct_u_law_kinds), sl_u_law_kinds⟩) (c_u_law_kinds : PySem.W.codeIn K cd_u_law_kinds "_law_kinds" = true) (k_u_law_kinds : PySem.W.keepIn K (.ref a_u_law_kinds) = true)
    (n_u_law_row : PySem.W.nsIn K mainGlobals "_law_row" = some (some (.ref a_u_law_row)))
    (l_u_law_row : K.lookup a_u_law_row = some ⟨oc_u_law_row, od_u_law_row, .func (PySem.W.fnOf "_law_row" "_law_row" (defArgs s_u_law_row) (defBody s_u_law_row) (defScope s_u_law_row) .none kV_u_law_row dc_u_law_row pm_u_law_row an_u_law_row cd_u_law_row ct_u_law_row), sl_u_law_row⟩) (c_u_law_row : PySem.W.codeIn K cd_u_law_row "_law_row" = true) (k_u_law_row : PySem.W.keepIn K (.ref a_u_law_row) = true)
    (n_u_law_numbers : PySem.W.nsIn K mainGlobals "_law_numbers" = some (some (.ref a_u_law_numbers)))
    (l_u_law_numbers : K.lookup a_u_law_numbers = some ⟨oc_u_law_numbers, od_u_law_numbers, .func (PySem.W.fnOf "_law_numbers" "_law_numbers" (defArgs s_u_law_numbers) (defBody s_u_law_numbers) (defScope s_u_law_numbers) .none kV_u_law_numbers dc_u_law_numbers pm_u_law_numbers an_u_law_numbers cd_u_law_numbers ct_u_law_numbers), sl_u_law_numbers⟩) (c_u_law_numbers : PySem.W.codeIn K cd_u_law_numbers "_law_numbers" = true) (k_u_law_numbers : PySem.W.keepIn K (.ref a_u_law_numbers) = true)
    (n_law : PySem.W.nsIn K mainGlobals "law" = some (some (.ref a_law)))
    (l_law : K.lookup a_law = some ⟨oc_law, od_law, .func (PySem.W.fnOf "law" "law" (defArgs s_law) (defBody s_law) (defScope s_law) .none kV_law dc_law pm_law an_law cd_law ct_law), sl_law⟩) (c_law : PySem.W.codeIn K cd_law "law" = true) (k_law : PySem.W.keepIn K (.ref a_law) = true)
    (n_MOST_COST : PySem.W.nsIn K mainGlobals "MOST_COST" = some (some (.int 1000 t_MOST_COST)))
    (n_MOST_DEADLINE : PySem.W.nsIn K mainGlobals "MOST_DEADLINE" = some (some (.int 1000 t_MOST_DEADLINE)))
    (n_MOST_DISTANCE : PySem.W.nsIn K mainGlobals "MOST_DISTANCE" = some (some (.int 1000 t_MOST_DISTANCE)))
    (n_MOST_KINDS : PySem.W.nsIn K mainGlobals "MOST_KINDS" = some (some (.int 8 t_MOST_KINDS)))
    (n_MOST_NAME_CHARS : PySem.W.nsIn K mainGlobals "MOST_NAME_CHARS" = some (some (.int 12 t_MOST_NAME_CHARS)))
    (n_MOST_WAYS : PySem.W.nsIn K mainGlobals "MOST_WAYS" = some (some (.int 16 t_MOST_WAYS)))
    (n_NAME_CHARS : PySem.W.nsIn K mainGlobals "NAME_CHARS" = some (some (.str "abcdefghijklmnopqrstuvwxyz0123456789" t_NAME_CHARS)))
    (z_abs : PySem.W.nsIn K mainGlobals "abs" = some none)
    (z_all : PySem.W.nsIn K mainGlobals "all" = some none)
    (z_bool : PySem.W.nsIn K mainGlobals "bool" = some none)
    (z_enumerate : PySem.W.nsIn K mainGlobals "enumerate" = some none)
    (z_int : PySem.W.nsIn K mainGlobals "int" = some none)
    (z_isinstance : PySem.W.nsIn K mainGlobals "isinstance" = some none)
    (z_len : PySem.W.nsIn K mainGlobals "len" = some none)
    (z_list : PySem.W.nsIn K mainGlobals "list" = some none)
    (z_max : PySem.W.nsIn K mainGlobals "max" = some none)
    (z_min : PySem.W.nsIn K mainGlobals "min" = some none)
    (z_range : PySem.W.nsIn K mainGlobals "range" = some none)
    (z_tuple : PySem.W.nsIn K mainGlobals "tuple" = some none) :
    ∃ fd : FuncData, (∀ (s : Shared) (v : Value), BindsTo s fd ⟨[v], []⟩ [("_law_script", v)]) ∧ ∀ base : Heap, K.In base → base.Ns mainGlobals mg → FnOk l.prog w K mg base CX0 15 fa fd ["_law_script"] (spLaw K) := by
  have e := hfa.symm.trans (PySem.W.mg_of X G n_law)
  cases e
  have F_u_law_number := fun_mk (st := s_u_law_number) l_u_law_number c_u_law_number k_u_law_number
  have B_u_law_number := F_u_law_number.binds (ps := ["_law_kinds_here", "_law_name_here"]) fun _ _ _ _ _ _ us hl => match us, hl with | [_, _], _ => rfl
  have F_u_law_turned := fun_mk (st := s_u_law_turned) l_u_law_turned c_u_law_turned k_u_law_turned
  have B_u_law_turned := F_u_law_turned.binds (ps := ["_law_kinds_here", "_law_ways_here", "_law_path"]) fun _ _ _ _ _ _ us hl => match us, hl with | [_, _, _], _ => rfl
  have F_u_law_is_integer := fun_mk (st := s_u_law_is_integer) l_u_law_is_integer c_u_law_is_integer k_u_law_is_integer
  have B_u_law_is_integer := F_u_law_is_integer.binds (ps := ["_law_actual"]) fun _ _ _ _ _ _ us hl => match us, hl with | [_], _ => rfl
  have F_u_law_is_circuit := fun_mk (st := s_u_law_is_circuit) l_u_law_is_circuit c_u_law_is_circuit k_u_law_is_circuit
  have B_u_law_is_circuit := F_u_law_is_circuit.binds (ps := ["_law_kinds_here", "_law_ways_here", "_law_circuit"]) fun _ _ _ _ _ _ us hl => match us, hl with | [_, _, _], _ => rfl
  have F_are_ways := fun_mk (st := s_are_ways) l_are_ways c_are_ways k_are_ways
  have B_are_ways := F_are_ways.binds (ps := ["ways", "kind_names"]) fun _ _ _ _ _ _ us hl => match us, hl with | [_, _], _ => rfl
  have F_is_name := fun_mk (st := s_is_name) l_is_name c_is_name k_is_name
  have B_is_name := F_is_name.binds (ps := ["text"]) fun _ _ _ _ _ _ us hl => match us, hl with | [_], _ => rfl
  have F_are_kinds := fun_mk (st := s_are_kinds) l_are_kinds c_are_kinds k_are_kinds
  have B_are_kinds := F_are_kinds.binds (ps := ["kinds"]) fun _ _ _ _ _ _ us hl => match us, hl with | [_], _ => rfl
  have F_Task___init__ := fun_mk (st := s_Task___init__) l_Task___init__ c_Task___init__ k_Task___init__
  have F_Task_kind_number := fun_mk (st := s_Task_kind_number) l_Task_kind_number c_Task_kind_number k_Task_kind_number
  have B_Task_kind_number := F_Task_kind_number.binds (ps := ["self", "kind_name"]) fun _ _ _ _ _ _ us hl => match us, hl with | [_, _], _ => rfl
  have F_extend_path := fun_mk (st := s_extend_path) l_extend_path c_extend_path k_extend_path
  have B_extend_path := F_extend_path.binds (ps := ["task", "start", "last", "path", "visited", "found"]) fun _ _ _ _ _ _ us hl => match us, hl with | [_, _, _, _, _, _], _ => rfl
  have F_circuits := fun_mk (st := s_circuits) l_circuits c_circuits k_circuits
  have B_circuits := F_circuits.binds (ps := ["task"]) fun _ _ _ _ _ _ us hl => match us, hl with | [_], _ => rfl
  have F_u_law_pick := fun_mk (st := s_u_law_pick) l_u_law_pick c_u_law_pick k_u_law_pick
  have B_u_law_pick := F_u_law_pick.binds (ps := ["_law_numbers_here", "_law_at", "_law_count"]) fun _ _ _ _ _ _ us hl => match us, hl with | [_, _, _], _ => rfl
  have F_u_law_walk := fun_mk (st := s_u_law_walk) l_u_law_walk c_u_law_walk k_u_law_walk
  have B_u_law_walk := F_u_law_walk.binds (ps := ["_law_numbers_here", "_law_at", "_law_kinds_here", "_law_ways_here"]) fun _ _ _ _ _ _ us hl => match us, hl with | [_, _, _, _], _ => rfl
  have F_u_law_ways := fun_mk (st := s_u_law_ways) l_u_law_ways c_u_law_ways k_u_law_ways
  have B_u_law_ways := F_u_law_ways.binds (ps := ["_law_numbers_here", "_law_at", "_law_kinds_here", "_law_most"]) fun _ _ _ _ _ _ us hl => match us, hl with | [_, _, _, _], _ => rfl
  have F_u_law_name := fun_mk (st := s_u_law_name) l_u_law_name c_u_law_name k_u_law_name
  have B_u_law_name := F_u_law_name.binds (ps := ["_law_numbers_here", "_law_k"]) fun _ _ _ _ _ _ us hl => match us, hl with | [_, _], _ => rfl
  have F_u_law_scale := fun_mk (st := s_u_law_scale) l_u_law_scale c_u_law_scale k_u_law_scale
  have B_u_law_scale := F_u_law_scale.binds (ps := ["_law_numbers_here"]) fun _ _ _ _ _ _ us hl => match us, hl with | [_], _ => rfl
  have F_u_law_kinds := fun_mk (st := s_u_law_kinds) l_u_law_kinds c_u_law_kinds k_u_law_kinds
  have B_u_law_kinds := F_u_law_kinds.binds (ps := ["_law_numbers_here", "_law_at", "_law_most"]) fun _ _ _ _ _ _ us hl => match us, hl with | [_, _, _], _ => rfl
  have F_u_law_row := fun_mk (st := s_u_law_row) l_u_law_row c_u_law_row k_u_law_row
  have B_u_law_row := F_u_law_row.binds (ps := ["_law_cell", "_law_many"]) fun _ _ _ _ _ _ us hl => match us, hl with | [_, _], _ => rfl
  have F_u_law_numbers := fun_mk (st := s_u_law_numbers) l_u_law_numbers c_u_law_numbers k_u_law_numbers
  have B_u_law_numbers := F_u_law_numbers.binds (ps := ["_law_script", "_law_many"]) fun _ _ _ _ _ _ us hl => match us, hl with | [_, _], _ => rfl
  have F_law := fun_mk (st := s_law) l_law c_law k_law
  have B_law := F_law.binds (ps := ["_law_script"]) fun _ _ _ _ _ _ us hl => match us, hl with | [_], _ => rfl
  exact ⟨_, fun s v => .of_eq rfl, fun base _ _ => law_ok (ok_law ⟨⟨pg_Task, hd_Task, po_Task, sa_Task⟩, PySem.W.mg_of X G n_Task, na_Task_kinds, na_Task_name, na_Task_ways, F_u_law_number, PySem.W.mg_of X G n_u_law_number, B_u_law_number, F_u_law_turned, PySem.W.mg_of X G n_u_law_turned, B_u_law_turned, F_u_law_is_integer, PySem.W.mg_of X G n_u_law_is_integer, B_u_law_is_integer, F_u_law_is_circuit, PySem.W.mg_of X G n_u_law_is_circuit, B_u_law_is_circuit, F_are_ways, PySem.W.mg_of X G n_are_ways, B_are_ways, F_is_name, PySem.W.mg_of X G n_is_name, B_is_name, F_are_kinds, PySem.W.mg_of X G n_are_kinds, B_are_kinds, F_Task___init__, ⟨mk_Task, n_Task___init__, i_Task___init__, kc_Task⟩, F_Task_kind_number, ⟨n_Task_kind_number, i_Task_kind_number, k_Task_kind_number⟩, B_Task_kind_number, F_extend_path, PySem.W.mg_of X G n_extend_path, B_extend_path, F_circuits, PySem.W.mg_of X G n_circuits, B_circuits, F_u_law_pick, PySem.W.mg_of X G n_u_law_pick, B_u_law_pick, F_u_law_walk, PySem.W.mg_of X G n_u_law_walk, B_u_law_walk, F_u_law_ways, PySem.W.mg_of X G n_u_law_ways, B_u_law_ways, F_u_law_name, PySem.W.mg_of X G n_u_law_name, B_u_law_name, F_u_law_scale, PySem.W.mg_of X G n_u_law_scale, B_u_law_scale, F_u_law_kinds, PySem.W.mg_of X G n_u_law_kinds, B_u_law_kinds, F_u_law_row, PySem.W.mg_of X G n_u_law_row, B_u_law_row, F_u_law_numbers, PySem.W.mg_of X G n_u_law_numbers, B_u_law_numbers, F_law, PySem.W.mg_of X G n_law, B_law, ⟨_, PySem.W.mg_of X G n_MOST_COST⟩, ⟨_, PySem.W.mg_of X G n_MOST_DEADLINE⟩, ⟨_, PySem.W.mg_of X G n_MOST_DISTANCE⟩, ⟨_, PySem.W.mg_of X G n_MOST_KINDS⟩, ⟨_, PySem.W.mg_of X G n_MOST_NAME_CHARS⟩, ⟨_, PySem.W.mg_of X G n_MOST_WAYS⟩, ⟨_, PySem.W.mg_of X G n_NAME_CHARS⟩, PySem.W.mg_none_of X G z_abs, PySem.W.mg_none_of X G z_all, PySem.W.mg_none_of X G z_bool, PySem.W.mg_none_of X G z_enumerate, PySem.W.mg_none_of X G z_int, PySem.W.mg_none_of X G z_isinstance, PySem.W.mg_none_of X G z_len, PySem.W.mg_none_of X G z_list, PySem.W.mg_none_of X G z_max, PySem.W.mg_none_of X G z_min, PySem.W.mg_none_of X G z_range, PySem.W.mg_none_of X G z_tuple⟩) (fun ns hl => law_true a_Task ns hl)⟩
theorem walk {l : PySem.W.OpenLaw} {q : Program} {loose : List Str} {XP : (Str → Option Value) → Heap → Prop} {YP : World → Heap → Prop} {d : DefRec} {K : Params → PySem.W.Frag} (hn : l.most = some 63) (hdf : d.params.defaults = [])
    (hY : ∀ (w : World) (h : Heap), YP w h → (K w.params).In h)
    (F : ∀ (w : World) (mg : Str → Option Value) (fa : Addr) (h : Heap), (K w.params).In h → h.Ns mainGlobals mg → mg d.name = some (.ref fa) →
      ∃ fd : FuncData, (∀ (s : Shared) (u : Value), BindsTo s fd ⟨[u], []⟩ [("_law_script", u)]) ∧ ∀ base : Heap, (K w.params).In base → base.Ns mainGlobals mg → FnOk l.prog w (K w.params) mg base CX0 15 fa fd ["_law_script"] (spLaw (K w.params))) :
    PySem.W.WalkO q loose XP YP l.row.toRowW d [] (fun f vs => PySem.call f vs) :=
  L2.walk_of (n := 63) (k := 15) (x := "_law_script") (CX := fun _ => CX0) (sp := fun w => spLaw (K w.params)) hn (by decide) hdf ⟨rfl, by decide, by decide⟩ hY F (fun _ _ a ns hl ho hS => ⟨a, ns, rfl, hS, hl, fun _ => rfl⟩) fun _ _ _ _ _ z => z
end Cl
open PySem PySem.W PyProof.Rows
set_option maxRecDepth 100000 in
set_option maxHeartbeats 0 in
theorem PySem.Challenge.cw_neverlate_k26_circuits_of_walks_holds : PySem.Challenge.rw_neverlate_k26_circuits_of_walks.Holds := by
  w_on; o_law; k_head; (case hw => w_witness2)
  k_fill
  refine Cl.walk (l := PySem.Challenge.rw_neverlate_k26_circuits_of_walks) rfl rfl (fun w h Y => PySem.W.kIn_of Y) ?F
  case F =>
    intro w mg fa h KX G hmg
    refine' Cl.all_mk KX G hmg ?n_Task ?pg_Task ?hd_Task ?po_Task ?sa_Task ?mk_Task ?kc_Task ?na_Task_kinds ?na_Task_name ?na_Task_ways ?n_u_law_number ?l_u_law_number ?c_u_law_number ?k_u_law_number ?n_u_law_turned ?l_u_law_turned ?c_u_law_turned ?k_u_law_turned ?n_u_law_is_integer ?l_u_law_is_integer ?c_u_law_is_integer ?k_u_law_is_integer ?n_u_law_is_circuit ?l_u_law_is_circuit ?c_u_law_is_circuit ?k_u_law_is_circuit ?n_are_ways ?l_are_ways ?c_are_ways ?k_are_ways ?n_is_name ?l_is_name ?c_is_name ?k_is_name ?n_are_kinds ?l_are_kinds ?c_are_kinds ?k_are_kinds ?n_Task___init__ ?i_Task___init__ ?l_Task___init__ ?c_Task___init__ ?k_Task___init__ ?n_Task_kind_number ?i_Task_kind_number ?l_Task_kind_number ?c_Task_kind_number ?k_Task_kind_number ?n_extend_path ?l_extend_path ?c_extend_path ?k_extend_path ?n_circuits ?l_circuits ?c_circuits ?k_circuits ?n_u_law_pick ?l_u_law_pick ?c_u_law_pick ?k_u_law_pick ?n_u_law_walk ?l_u_law_walk ?c_u_law_walk ?k_u_law_walk ?n_u_law_ways ?l_u_law_ways ?c_u_law_ways ?k_u_law_ways ?n_u_law_name ?l_u_law_name ?c_u_law_name ?k_u_law_name ?n_u_law_scale ?l_u_law_scale ?c_u_law_scale ?k_u_law_scale ?n_u_law_kinds ?l_u_law_kinds ?c_u_law_kinds ?k_u_law_kinds ?n_u_law_row ?l_u_law_row ?c_u_law_row ?k_u_law_row ?n_u_law_numbers ?l_u_law_numbers ?c_u_law_numbers ?k_u_law_numbers ?n_law ?l_law ?c_law ?k_law ?n_MOST_COST ?n_MOST_DEADLINE ?n_MOST_DISTANCE ?n_MOST_KINDS ?n_MOST_NAME_CHARS ?n_MOST_WAYS ?n_NAME_CHARS ?z_abs ?z_all ?z_bool ?z_enumerate ?z_int ?z_isinstance ?z_len ?z_list ?z_max ?z_min ?z_range ?z_tuple
    (case n_Task => k_is)
    (case pg_Task => k_is)
    (case hd_Task => k_is)
    (case po_Task => k_is)
    (case sa_Task => k_is)
    (case mk_Task => k_is)
    (case kc_Task => k_is)
    (case na_Task_kinds => k_is)
    (case na_Task_name => k_is)
    (case na_Task_ways => k_is)
    (case n_u_law_number => k_is)
    (case l_u_law_number => k_is)
    (case c_u_law_number => k_is)
    (case k_u_law_number => k_is)
    (case n_u_law_turned => k_is)
    (case l_u_law_turned => k_is)
    (case c_u_law_turned => k_is)
    (case k_u_law_turned => k_is)
    (case n_u_law_is_integer => k_is)
    (case l_u_law_is_integer => k_is)
    (case c_u_law_is_integer => k_is)
    (case k_u_law_is_integer => k_is)
    (case n_u_law_is_circuit => k_is)
    (case l_u_law_is_circuit => k_is)
    (case c_u_law_is_circuit => k_is)
    (case k_u_law_is_circuit => k_is)
    (case n_are_ways => k_is)
    (case l_are_ways => k_is)
    (case c_are_ways => k_is)
    (case k_are_ways => k_is)
    (case n_is_name => k_is)
    (case l_is_name => k_is)
    (case c_is_name => k_is)
    (case k_is_name => k_is)
    (case n_are_kinds => k_is)
    (case l_are_kinds => k_is)
    (case c_are_kinds => k_is)
    (case k_are_kinds => k_is)
    (case n_Task___init__ => k_is)
    (case i_Task___init__ => k_is)
    (case l_Task___init__ => k_is)
    (case c_Task___init__ => k_is)
    (case k_Task___init__ => k_is)
    (case n_Task_kind_number => k_is)
    (case i_Task_kind_number => k_is)
    (case l_Task_kind_number => k_is)
    (case c_Task_kind_number => k_is)
    (case k_Task_kind_number => k_is)
    (case n_extend_path => k_is)
    (case l_extend_path => k_is)
    (case c_extend_path => k_is)
    (case k_extend_path => k_is)
    (case n_circuits => k_is)
    (case l_circuits => k_is)
    (case c_circuits => k_is)
    (case k_circuits => k_is)
    (case n_u_law_pick => k_is)
    (case l_u_law_pick => k_is)
    (case c_u_law_pick => k_is)
    (case k_u_law_pick => k_is)
    (case n_u_law_walk => k_is)
    (case l_u_law_walk => k_is)
    (case c_u_law_walk => k_is)
    (case k_u_law_walk => k_is)
    (case n_u_law_ways => k_is)
    (case l_u_law_ways => k_is)
    (case c_u_law_ways => k_is)
    (case k_u_law_ways => k_is)
    (case n_u_law_name => k_is)
    (case l_u_law_name => k_is)
    (case c_u_law_name => k_is)
    (case k_u_law_name => k_is)
    (case n_u_law_scale => k_is)
    (case l_u_law_scale => k_is)
    (case c_u_law_scale => k_is)
    (case k_u_law_scale => k_is)
    (case n_u_law_kinds => k_is)
    (case l_u_law_kinds => k_is)
    (case c_u_law_kinds => k_is)
    (case k_u_law_kinds => k_is)
    (case n_u_law_row => k_is)
    (case l_u_law_row => k_is)
    (case c_u_law_row => k_is)
    (case k_u_law_row => k_is)
    (case n_u_law_numbers => k_is)
    (case l_u_law_numbers => k_is)
    (case c_u_law_numbers => k_is)
    (case k_u_law_numbers => k_is)
    (case n_law => k_is)
    (case l_law => k_is)
    (case c_law => k_is)
    (case k_law => k_is)
    (case n_MOST_COST => k_is)
    (case n_MOST_DEADLINE => k_is)
    (case n_MOST_DISTANCE => k_is)
    (case n_MOST_KINDS => k_is)
    (case n_MOST_NAME_CHARS => k_is)
    (case n_MOST_WAYS => k_is)
    (case n_NAME_CHARS => k_is)
    (case z_abs => k_is)
    (case z_all => k_is)
    (case z_bool => k_is)
    (case z_enumerate => k_is)
    (case z_int => k_is)
    (case z_isinstance => k_is)
    (case z_len => k_is)
    (case z_list => k_is)
    (case z_max => k_is)
    (case z_min => k_is)
    (case z_range => k_is)
    (case z_tuple => k_is)
#print axioms PySem.Challenge.cw_neverlate_k26_circuits_of_walks_holds
