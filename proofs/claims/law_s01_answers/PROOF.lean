import PyProof.Rows.All
import Wide.All
import OpenK.AllK
import Wide.FinOn
import Open.SpecLaws
import KE.OsGo
import KE.HD4
import HandS.ForSpec
import HandS.Comp
import HandS.Iter
import HandS.Zip
import HandS.Text
import HandS.FStr
import HandS.Defaults
import HandS.HeadHook1
import HandS.HeadHook2
import PySem.Challenge.RW_facedup_s01_answers
import HandS.Style
import PyVbndao
import PyFlatLaws
import HandS.Codes
set_option Elab.async false
set_option linter.all false
set_option maxRecDepth 100000
set_option maxHeartbeats 4000000
/-! # Fw: semantic typing over the hand layer. A world is a frozen part F of the tracked heap H; a description (Dsc) speaks of F alone and stays when F grows. -/
namespace Fd
open PySem PySem.Spec PyProof.Rows L2

/-- what never changes: tuples, and what the layer has frozen -/
def stiff : HO → Bool
  | .tup _ => true
  | .frz _ _ => true
  | _ => false
structure Wd where
  F : Hp
  H : Hp
  sub : Same F H
  tup : ∀ b o, H b = some o → stiff o = true → F b = some o
/-- one world behind another: both parts grow, what was tracked but not frozen is not frozen later -/
structure Le (W U : Wd) : Prop where
  f : Same W.F U.F
  h : Same W.H U.H
  new : ∀ b o, W.H b = some o → W.F b = none → U.F b = none
theorem Le.refl (W : Wd) : Le W W := ⟨fun _ _ e => e, fun _ _ e => e, fun _ _ _ e => e⟩
theorem Le.trans {W U T : Wd} (a : Le W U) (b : Le U T) : Le W T :=
  ⟨fun c o e => b.f c o (a.f c o e), fun c o e => b.h c o (a.h c o e), fun c o e n => b.new c o (a.h c o e) (a.new c o e n)⟩
/-- a new object, frozen at once -/
def Wd.add (W : Wd) (p : Addr) (o : HO) : Wd := ⟨upd W.F p o, upd W.H p o, fun b u e => by
  by_cases hb : b = p
  · subst hb; rw [upd_same] at e ⊢; exact e
  · rw [upd_ne hb] at e ⊢; exact W.sub _ _ e, fun b u e k => by
  by_cases hb : b = p
  · subst hb; rw [upd_same] at e ⊢; exact e
  · rw [upd_ne hb] at e ⊢; exact W.tup _ _ e k⟩
theorem Wd.freeF {W : Wd} {p : Addr} (h : W.H p = none) : W.F p = none := W.sub.free h
theorem Le.add {W : Wd} {p : Addr} {o : HO} (h : W.H p = none) : Le W (W.add p o) := by
  refine ⟨fun b u e => ?_, fun b u e => ?_, fun b u e n => ?_⟩
  · show upd W.F p o b = some u
    rw [upd_ne (ne_of_none e (W.freeF h))]; exact e
  · show upd W.H p o b = some u
    rw [upd_ne (ne_of_none e h)]; exact e
  · show upd W.F p o b = none
    rw [upd_ne (ne_of_none e h)]; exact n
/-- an object that is no tuple -/
def NoTup (o : HO) : Prop := stiff o = false
theorem noTup_lst {vs : List V} : NoTup (.lst vs) := rfl
theorem noTup_ins {C dx : Addr} {fs : List (Str × V)} : NoTup (.ins C dx fs) := rfl
theorem noTup_own {x : Addr} : NoTup (.own x) := rfl
/-- a new object, not frozen -/
def Wd.own (W : Wd) (p : Addr) (o : HO) (h : W.F p = none) (ho : NoTup o) : Wd := ⟨W.F, upd W.H p o, fun b u e => by
  rw [upd_ne (ne_of_none e h)]; exact W.sub _ _ e, fun b u e k => by
  by_cases hb : b = p
  · subst hb; rw [upd_same] at e; cases e; rw [show stiff o = false from ho] at k; cases k
  · rw [upd_ne hb] at e; exact W.tup _ _ e k⟩
theorem Le.own {W : Wd} {p : Addr} {o : HO} (h : W.H p = none) (ho : NoTup o) : Le W (W.own p o (W.freeF h) ho) :=
  ⟨fun _ _ e => e, fun b u e => by show upd W.H p o b = some u; rw [upd_ne (ne_of_none e h)]; exact e, fun _ _ _ n => n⟩
/-- from an entry W0: an object newer than W0 changes -/
theorem Le.chg {W0 W : Wd} {p : Addr} {o : HO} (l : Le W0 W) (h0 : W0.H p = none) (h : W.F p = none) (ho : NoTup o) : Le W0 (W.own p o h ho) :=
  ⟨l.f, fun b u e => by show upd W.H p o b = some u; rw [upd_ne (ne_of_none e h0)]; exact l.h b u e, l.new⟩
/-- an object newer than W0 is frozen as it stands -/
def Wd.frz (W : Wd) (p : Addr) (o : HO) (h : W.H p = some o) : Wd := ⟨upd W.F p o, W.H, fun b u e => by
  by_cases hb : b = p
  · subst hb; rw [upd_same] at e; rw [h]; exact e
  · rw [upd_ne hb] at e; exact W.sub _ _ e, fun b u e k => by
  by_cases hb : b = p
  · subst hb; rw [upd_same, ← h]; exact e
  · rw [upd_ne hb]; exact W.tup _ _ e k⟩
theorem Le.frz {W0 W : Wd} {p : Addr} {o : HO} (l : Le W0 W) (h0 : W0.H p = none) (hF : W.F p = none) (h : W.H p = some o) : Le W0 (W.frz p o h) :=
  ⟨fun b u e => by
    show upd W.F p o b = some u
    rw [upd_ne (ne_of_none (W0.sub _ _ e) h0)]; exact l.f b u e, l.h, fun b u e n => by
    show upd W.F p o b = none
    rw [upd_ne (ne_of_none e h0)]; exact l.new b u e n⟩

/-! ### descriptions -/
structure Dsc where
  ok : V → Hp → Prop
  mono : ∀ {v : V} {F G : Hp}, Same F G → ok v F → ok v G
def dV (x : V) : Dsc := ⟨fun v _ => v = x, fun _ h => h⟩
abbrev dI (i : Int) : Dsc := dV (.int i)
abbrev dN (n : Nat) : Dsc := dV (.int (n : Int))
abbrev dB (b : Bool) : Dsc := dV (.bl b)
abbrev dS (s : Str) : Dsc := dV (.str s)
def AllD : List Dsc → List V → Hp → Prop
  | [], [], _ => True
  | d :: ds, v :: vs, F => d.ok v F ∧ AllD ds vs F
  | _, _, _ => False
theorem AllD.mono {F G : Hp} (e : Same F G) : ∀ {ds : List Dsc} {vs : List V}, AllD ds vs F → AllD ds vs G
  | [], [], h => h
  | d :: _, _ :: _, h => ⟨d.mono e h.1, AllD.mono e h.2⟩
  | [], _ :: _, h => h.elim
  | _ :: _, [], h => h.elim
theorem AllD.len {F : Hp} : ∀ {ds : List Dsc} {vs : List V}, AllD ds vs F → vs.length = ds.length
  | [], [], _ => rfl
  | _ :: _, _ :: _, h => congrArg (· + 1) (AllD.len h.2)
  | [], _ :: _, h => h.elim
  | _ :: _, [], h => h.elim
theorem AllD.app {F : Hp} : ∀ {ds es : List Dsc} {vs us : List V}, AllD ds vs F → AllD es us F → AllD (ds ++ es) (vs ++ us) F
  | [], _, [], _, _, h => h
  | _ :: _, _, _ :: _, _, h, k => ⟨h.1, AllD.app h.2 k⟩
  | [], _, _ :: _, _, h, _ => h.elim
  | _ :: _, _, [], _, h, _ => h.elim
theorem AllD.get {F : Hp} : ∀ {ds : List Dsc} {vs : List V} {i : Nat} {d : Dsc}, AllD ds vs F → ds[i]? = some d → ∃ v, vs[i]? = some v ∧ d.ok v F
  | [], _, _, _, _, e => by simp at e
  | _ :: _, [], _, _, h, _ => h.elim
  | _ :: _, v :: _, 0, d, h, e => by simp at e; subst e; exact ⟨v, rfl, h.1⟩
  | _ :: _, _ :: _, i + 1, d, h, e => by
    obtain ⟨v, h1, h2⟩ := AllD.get (i := i) h.2 (by simpa using e)
    exact ⟨v, by simpa using h1, h2⟩
theorem AllD.get' {F : Hp} {ds : List Dsc} {vs : List V} {i : Nat} {v : V} (h : AllD ds vs F) (e : vs[i]? = some v) : ∃ d, ds[i]? = some d ∧ d.ok v F := by
  have hl := h.len
  have hi : i < ds.length := by rw [← hl]; exact (List.getElem?_eq_some_iff.mp e).1
  obtain ⟨w, h1, h2⟩ := h.get (i := i) (d := ds[i]) (by simp [hi])
  rw [e] at h1
  obtain rfl := Option.some.inj h1
  exact ⟨ds[i], by simp [hi], h2⟩
theorem AllD.take {F : Hp} : ∀ {ds : List Dsc} {vs : List V} (n : Nat), AllD ds vs F → AllD (ds.take n) (vs.take n) F
  | _, _, 0, _ => by simp only [List.take_zero]; trivial
  | [], [], _ + 1, h => h
  | _ :: _, _ :: _, n + 1, h => ⟨h.1, AllD.take n h.2⟩
  | [], _ :: _, _ + 1, h => h.elim
  | _ :: _, [], _ + 1, h => h.elim
theorem AllD.drop {F : Hp} : ∀ {ds : List Dsc} {vs : List V} (n : Nat), AllD ds vs F → AllD (ds.drop n) (vs.drop n) F
  | _, _, 0, h => h
  | [], [], _ + 1, h => h
  | _ :: _, _ :: _, n + 1, h => AllD.drop n h.2
  | [], _ :: _, _ + 1, h => h.elim
  | _ :: _, [], _ + 1, h => h.elim
theorem AllD.set {F : Hp} {d : Dsc} {v : V} (q : d.ok v F) : ∀ {ds : List Dsc} {vs : List V} (i : Nat), AllD ds vs F → AllD (ds.set i d) (vs.set i v) F
  | [], [], _, h => h
  | _ :: _, _ :: _, 0, h => ⟨q, h.2⟩
  | _ :: _, _ :: _, i + 1, h => ⟨h.1, AllD.set q i h.2⟩
  | [], _ :: _, _, h => h.elim
  | _ :: _, [], _, h => h.elim
/-- written values describe themselves -/
theorem AllD.vals {F : Hp} : ∀ (vs : List V), AllD (vs.map dV) vs F
  | [] => trivial
  | _ :: vs => ⟨rfl, AllD.vals vs⟩
theorem AllD.of_vals {F : Hp} : ∀ {xs vs : List V}, AllD (xs.map dV) vs F → vs = xs
  | [], [], _ => rfl
  | _ :: xs, _ :: vs, h => by rw [show _ = _ from h.1, AllD.of_vals h.2]
  | [], _ :: _, h => h.elim
  | _ :: _, [], h => h.elim
theorem SqT.mono {K : PySem.W.Frag} {F G : Hp} {a : Addr} {xs : List V} (e : Same F G) (h : SqT K F a xs) : SqT K G a xs := by
  rcases h with (h | ⟨o, h⟩) | h
  · exact .inl (.inl (e _ _ h))
  · exact .inl (.inr ⟨o, e _ _ h⟩)
  · exact .inr h
/-- a list, frozen -/
def dL (ds : List Dsc) : Dsc := ⟨fun v F => ∃ p vs, v = .ref p ∧ F p = some (.lst vs) ∧ AllD ds vs F, fun e ⟨p, vs, h1, h2, h3⟩ => ⟨p, vs, h1, e _ _ h2, h3.mono e⟩⟩
/-- a tuple -/
def dT (K : PySem.W.Frag) (ds : List Dsc) : Dsc := ⟨fun v F => ∃ p vs, v = .ref p ∧ SqT K F p vs ∧ AllD ds vs F, fun e ⟨p, vs, h1, h2, h3⟩ => ⟨p, vs, h1, SqT.mono e h2, h3.mono e⟩⟩
abbrev dNs (l : List Nat) : Dsc := dL (l.map dN)
abbrev dIs (l : List Int) : Dsc := dL (l.map dI)
/-- attributes -/
def AllF : List (Str × Dsc) → List (Str × V) → Hp → Prop
  | [], [], _ => True
  | d :: ds, v :: vs, F => (d.1 = v.1 ∧ d.2.ok v.2 F) ∧ AllF ds vs F
  | _, _, _ => False
theorem AllF.mono {F G : Hp} (e : Same F G) : ∀ {ds : List (Str × Dsc)} {vs : List (Str × V)}, AllF ds vs F → AllF ds vs G
  | [], [], h => h
  | d :: _, _ :: _, h => ⟨⟨h.1.1, d.2.mono e h.1.2⟩, AllF.mono e h.2⟩
  | [], _ :: _, h => h.elim
  | _ :: _, [], h => h.elim
theorem AllF.len {F : Hp} : ∀ {ds : List (Str × Dsc)} {vs : List (Str × V)}, AllF ds vs F → vs.length = ds.length
  | [], [], _ => rfl
  | _ :: _, _ :: _, h => congrArg (· + 1) (AllF.len h.2)
  | [], _ :: _, h => h.elim
  | _ :: _, [], h => h.elim
theorem AllF.look {F : Hp} {f : Str} {d : Dsc} : ∀ {ds : List (Str × Dsc)} {vs : List (Str × V)}, AllF ds vs F → ds.lookup f = some d → ∃ v, vs.lookup f = some v ∧ d.ok v F
  | [], _, _, e => by cases e
  | _ :: _, [], h, _ => h.elim
  | (g, c) :: ds, (k, v) :: vs, h, e => by
    obtain ⟨⟨h1, h2⟩, h3⟩ := h
    have h1 : g = k := h1
    subst h1
    simp only [List.lookup_cons] at e ⊢
    cases hb : (f == g) with
    | true =>
      rw [hb] at e
      cases Option.some.inj e
      exact ⟨v, rfl, h2⟩
    | false =>
      rw [hb] at e
      exact AllF.look h3 e
def dO (C : Addr) (fs : List (Str × Dsc)) : Dsc := ⟨fun v F => ∃ a dx vs, v = .ref a ∧ F a = some (.ins C dx vs) ∧ AllF fs vs F, fun e ⟨a, dx, vs, h1, h2, h3⟩ => ⟨a, dx, vs, h1, e _ _ h2, h3.mono e⟩⟩

/-! ### slots -/
structure Own where
  ok : V → Wd → Prop
  mono : ∀ {v : V} {W U : Wd}, Le W U → ok v W → ok v U
inductive Ty where
  | pl (d : Dsc)
  | ow (o : Own)
def Ty.ok : Ty → V → Wd → Prop
  | .pl d, v, W => d.ok v W.F
  | .ow o, v, W => o.ok v W
theorem Ty.mono {t : Ty} {v : V} {W U : Wd} (l : Le W U) (h : t.ok v W) : t.ok v U := match t with
  | .pl d => d.mono l.f h
  | .ow o => o.mono l h
/-- a list newer than W0 that is still to grow -/
def ownL (W0 : Wd) (ds : List Dsc) : Own := ⟨fun v W => ∃ p vs, v = .ref p ∧ W0.H p = none ∧ W.F p = none ∧ W.H p = some (.lst vs) ∧ AllD ds vs W.F,
  fun l ⟨p, vs, h1, h2, h3, h4, h5⟩ => ⟨p, vs, h1, h2, l.new _ _ h4 h3, l.h _ _ h4, h5.mono l.f⟩⟩
abbrev En := List (Option Ty)
def Sat : En → L2.St → Wd → Prop
  | [], [], _ => True
  | none :: G, _ :: σ, W => Sat G σ W
  | some t :: G, some v :: σ, W => t.ok v W ∧ Sat G σ W
  | _, _, _ => False
theorem Sat.mono {W U : Wd} (l : Le W U) : ∀ {G : En} {σ : L2.St}, Sat G σ W → Sat G σ U
  | [], [], h => h
  | none :: G, none :: σ, h => Sat.mono l (G := G) (σ := σ) h
  | none :: G, some _ :: σ, h => Sat.mono l (G := G) (σ := σ) h
  | some _ :: _, some _ :: _, h => ⟨Ty.mono l h.1, Sat.mono l h.2⟩
  | some _ :: _, none :: _, h => h.elim
  | [], _ :: _, h => h.elim
  | none :: _, [], h => h.elim
  | some _ :: _, [], h => h.elim
theorem Sat.get {W : Wd} {t : Ty} : ∀ {G : En} {σ : L2.St} {i : Nat}, Sat G σ W → G[i]? = some (some t) → ∃ v, σ[i]? = some (some v) ∧ t.ok v W
  | [], _, _, _, e => by simp at e
  | none :: _, [], _, h, _ => h.elim
  | some _ :: _, [], _, h, _ => h.elim
  | some _ :: _, none :: _, _, h, _ => h.elim
  | none :: _, _ :: _, 0, _, e => by simp at e
  | some t' :: _, some v :: _, 0, h, e => by
    simp at e; subst e; exact ⟨v, rfl, h.1⟩
  | none :: G, some _ :: σ, i + 1, h, e => by
    obtain ⟨v, a, b⟩ := Sat.get (G := G) (σ := σ) (i := i) (t := t) h (by simpa using e)
    exact ⟨v, by simpa using a, b⟩
  | none :: G, none :: σ, i + 1, h, e => by
    obtain ⟨v, a, b⟩ := Sat.get (G := G) (σ := σ) (i := i) (t := t) h (by simpa using e)
    exact ⟨v, by simpa using a, b⟩
  | some _ :: _, some _ :: _, i + 1, h, e => by
    obtain ⟨v, a, b⟩ := Sat.get (i := i) (W := W) (t := t) h.2 (by simpa using e)
    exact ⟨v, by simpa using a, b⟩
theorem Sat.set {W : Wd} {t : Ty} {v : V} (q : t.ok v W) : ∀ {G : En} {σ : L2.St} (i : Nat), Sat G σ W → Sat (G.set i (some t)) (σ.set i (some v)) W
  | [], [], _, h => h
  | none :: _, none :: _, 0, h => ⟨q, h⟩
  | none :: _, some _ :: _, 0, h => ⟨q, h⟩
  | some _ :: _, some _ :: _, 0, h => ⟨q, h.2⟩
  | none :: G, none :: σ, i + 1, h => Sat.set q i (G := G) (σ := σ) h
  | none :: G, some _ :: σ, i + 1, h => Sat.set q i (G := G) (σ := σ) h
  | some _ :: _, some _ :: _, i + 1, h => ⟨h.1, Sat.set q i h.2⟩
  | some _ :: _, none :: _, _, h => h.elim
  | [], _ :: _, _, h => h.elim
  | none :: _, [], _, h => h.elim
  | some _ :: _, [], _, h => h.elim
theorem Sat.drop {W : Wd} : ∀ {G : En} {σ : L2.St} (i : Nat), Sat G σ W → Sat (G.set i none) (σ.set i none) W
  | [], [], _, h => h
  | none :: _, none :: _, 0, h => h
  | none :: _, some _ :: _, 0, h => h
  | some _ :: _, some _ :: _, 0, h => h.2
  | none :: G, none :: σ, i + 1, h => Sat.drop i (G := G) (σ := σ) h
  | none :: G, some _ :: σ, i + 1, h => Sat.drop i (G := G) (σ := σ) h
  | some _ :: _, some _ :: _, i + 1, h => ⟨h.1, Sat.drop i h.2⟩
  | some _ :: _, none :: _, _, h => h.elim
  | [], _ :: _, _, h => h.elim
  | none :: _, [], _, h => h.elim
  | some _ :: _, [], _, h => h.elim
/-- a slot's description forgotten -/
theorem Sat.forget {W : Wd} : ∀ {G : En} {σ : L2.St} (i : Nat), Sat G σ W → Sat (G.set i none) σ W
  | [], [], _, h => h
  | none :: _, none :: _, 0, h => h
  | none :: _, some _ :: _, 0, h => h
  | some _ :: _, some _ :: _, 0, h => h.2
  | none :: G, none :: σ, i + 1, h => Sat.forget i (G := G) (σ := σ) h
  | none :: G, some _ :: σ, i + 1, h => Sat.forget i (G := G) (σ := σ) h
  | some _ :: _, some _ :: _, i + 1, h => ⟨h.1, Sat.forget i h.2⟩
  | some _ :: _, none :: _, _, h => h.elim
  | [], _ :: _, _, h => h.elim
  | none :: _, [], _, h => h.elim
  | some _ :: _, [], _, h => h.elim
def wipeE (G : En) : List Nat → En
  | [] => G
  | v :: vs => (wipeE G vs).set v none
theorem Sat.wipe {W : Wd} {G : En} {σ : L2.St} (h : Sat G σ W) : ∀ vs : List Nat, Sat (wipeE G vs) (L2.wipe σ vs) W
  | [] => h
  | v :: vs => (Sat.wipe h vs).drop v
/-- the frozen part alone counts for plain slots: such an environment stays when a newer object changes -/
def plainE : En → Bool
  | [] => true
  | none :: G => plainE G
  | some (.pl _) :: G => plainE G
  | some (.ow _) :: _ => false
theorem Sat.plain {W U : Wd} (e : W.F = U.F) : ∀ {G : En} {σ : L2.St}, plainE G = true → Sat G σ W → Sat G σ U
  | [], [], _, h => h
  | none :: G, none :: σ, p, h => Sat.plain e (G := G) (σ := σ) p h
  | none :: G, some _ :: σ, p, h => Sat.plain e (G := G) (σ := σ) p h
  | some (.pl d) :: G, some v :: σ, p, h => ⟨(by have h1 : d.ok v W.F := h.1; rw [e] at h1; exact h1), Sat.plain e (G := G) (σ := σ) p h.2⟩
  | some (.ow _) :: _, _, p, _ => by cases p
  | some (.pl _) :: _, none :: _, _, h => h.elim
  | [], _ :: _, _, h => h.elim
  | none :: _, [], _, h => h.elim
  | some (.pl _) :: _, [], _, h => h.elim
end Fd

namespace Fd
open PySem PySem.Spec PyProof.Rows L2

/-! ### what a reading comes to -/
def Ev (t : TE) (G : En) (W : Wd) (d : Dsc) : Prop := ∀ σ W1, Le W W1 → Sat G σ W1 → ∀ Q : VK, (∀ v W2, Le W1 W2 → d.ok v W2.F → Q v W2.H) → t σ W1.H Q
/-- a new list, not yet frozen -/
def EvO (t : TE) (G : En) (W : Wd) (ds : List Dsc) : Prop := ∀ σ W1, Le W W1 → Sat G σ W1 → ∀ Q : VK, (∀ p vs W2, Le W1 W2 → W1.H p = none → W2.F p = none → W2.H p = some (.lst vs) → AllD ds vs W2.F → Q (.ref p) W2.H) → t σ W1.H Q
def EvT (t : TT) (G : En) (W : Wd) (b : Bool) : Prop := ∀ σ W1, Le W W1 → Sat G σ W1 → ∀ Q : Bool → Hp → Prop, (∀ W2, Le W1 W2 → Q b W2.H) → t σ W1.H Q
def EvA (t : TA) (G : En) (W : Wd) (ds : List Dsc) : Prop := ∀ σ W1, Le W W1 → Sat G σ W1 → ∀ Q : List V → Hp → Prop, (∀ vs W2, Le W1 W2 → AllD ds vs W2.F → Q vs W2.H) → t σ W1.H Q
def EvP (t : TO) (G : En) (W : Wd) (o : Option Int) : Prop := ∀ σ W1, Le W W1 → Sat G σ W1 → ∀ Q : Option Int → Hp → Prop, (∀ W2, Le W1 W2 → Q o W2.H) → t σ W1.H Q
section
variable {G : En} {W : Wd} {d d1 d2 : Dsc} {ta tb te : TE} {b : Bool} {K : PySem.W.Frag}
theorem EvO.ev {ds : List Dsc} (h : EvO te G W ds) : Ev te G W (dL ds) := fun σ W1 l s Q q => h σ W1 l s Q fun p vs W2 l2 n f hp a => by
  have l3 : Le W1 (W2.frz p (.lst vs) hp) := l2.frz n f hp
  refine q (.ref p) (W2.frz p (.lst vs) hp) l3 ⟨p, vs, rfl, upd_same, a.mono fun b u e => ?_⟩
  show upd W2.F p _ b = some u
  rw [upd_ne (ne_of_none e f)]
  exact e
theorem Ev.to {d' : Dsc} (h : Ev te G W d) (e : d = d') : Ev te G W d' := e ▸ h
theorem EvO.to {ds es : List Dsc} (h : EvO te G W ds) (e : ds = es) : EvO te G W es := e ▸ h
theorem EvT.to {c : Bool} {t : TT} (h : EvT t G W b) (e : b = c) : EvT t G W c := e ▸ h
theorem Ev.imp {d' : Dsc} (h : Ev te G W d) (k : ∀ v F, d.ok v F → d'.ok v F) : Ev te G W d' := fun σ W1 l s Q q => h σ W1 l s Q fun v W2 l2 o => q v W2 l2 (k _ _ o)
theorem ev_var {i : Nat} (h : G[i]? = some (some (.pl d)) := by rfl) : Ev (tVar i) G W d := fun σ W1 _ s Q q => by
  obtain ⟨v, a, b⟩ := s.get h
  exact ⟨v, a, q v W1 (Le.refl _) b⟩
theorem ev_c {v : V} : Ev (tC v) G W (dV v) := fun _ W1 _ _ Q q => q v W1 (Le.refl _) rfl
/-- two operands, then the operation -/
theorem ev_op {r : R2} (ha : Ev ta G W d1) (hb : Ev tb G W d2) (hr : ∀ W1, Le W W1 → ∀ x y, d1.ok x W1.F → d2.ok y W1.F → ∀ Q : VK, (∀ v W2, Le W1 W2 → d.ok v W2.F → Q v W2.H) → r x y W1.H Q) :
    Ev (tOp r ta tb) G W d := fun σ W1 l s Q q =>
  ha σ W1 l s _ fun x W2 l2 o2 => hb σ W2 (l.trans l2) (s.mono l2) _ fun y W3 l3 o3 => hr W3 ((l.trans l2).trans l3) x y (d1.mono l3.f o2) o3 Q fun v W4 l4 o4 => q v W4 ((l2.trans l3).trans l4) o4
theorem evO_op {r : R2} {ds : List Dsc} (ha : Ev ta G W d1) (hb : Ev tb G W d2) (hr : ∀ W1, Le W W1 → ∀ x y, d1.ok x W1.F → d2.ok y W1.F → ∀ Q : VK, (∀ p vs, W1.H p = none → AllD ds vs W1.F → Q (.ref p) (upd W1.H p (.lst vs))) → r x y W1.H Q) :
    EvO (tOp r ta tb) G W ds := fun σ W1 l s Q q =>
  ha σ W1 l s _ fun x W2 l2 o2 => hb σ W2 (l.trans l2) (s.mono l2) _ fun y W3 l3 o3 => hr W3 ((l.trans l2).trans l3) x y (d1.mono l3.f o2) o3 Q fun p vs n a => by
    have n1 : W1.H p = none := (l2.trans l3).h.free n
    have key := q p vs (W3.own p (.lst vs) (W3.freeF n) noTup_lst) ((l2.trans l3).trans (Le.own n noTup_lst)) n1 (W3.freeF n) upd_same a
    exact key
/-! ints -/
theorem ev_I0 {g : Int → Int → V} {i j : Int} (ha : Ev ta G W (dI i)) (hb : Ev tb G W (dI j)) : Ev (tOp (rI0 g) ta tb) G W (dV (g i j)) :=
  ev_op ha hb fun W1 _ x y ex ey Q q => ⟨i, j, ex, ey, q _ W1 (Le.refl _) rfl⟩
theorem ev_I {C : Int → Int → Prop} {g : Int → Int → V} {i j : Int} (ha : Ev ta G W (dI i)) (hb : Ev tb G W (dI j)) (hc : C i j) : Ev (tOp (rI C g) ta tb) G W (dV (g i j)) :=
  ev_op ha hb fun W1 _ x y ex ey Q q => ⟨i, j, ex, ey, hc, q _ W1 (Le.refl _) rfl⟩
theorem ev_eqS {x y : V} (ha : Ev ta G W (dV x)) (hb : Ev tb G W (dV y)) (hs : scal x y = true) : Ev (tOp rEq ta tb) G W (dB (decide (x = y))) :=
  ev_op ha hb fun W1 _ u v eu ev Q q => by
    cases eu; cases ev
    exact ⟨hs, q _ W1 (Le.refl _) rfl⟩
theorem ev_neS {x y : V} (ha : Ev ta G W (dV x)) (hb : Ev tb G W (dV y)) (hs : scal x y = true) : Ev (tOp rNe ta tb) G W (dB (!decide (x = y))) :=
  ev_op ha hb fun W1 _ u v eu ev Q q => by
    cases eu; cases ev
    exact ⟨hs, q _ W1 (Le.refl _) rfl⟩
theorem dec_int {i j : Int} : decide (V.int i = V.int j) = decide (i = j) := by
  by_cases h : i = j
  · subst h; simp
  · rw [decide_eq_false h, decide_eq_false fun e => h (V.int.inj e)]
theorem ev_eqI {i j : Int} (ha : Ev ta G W (dI i)) (hb : Ev tb G W (dI j)) : Ev (tOp rEq ta tb) G W (dB (decide (i = j))) := (ev_eqS ha hb rfl).to (by rw [dec_int])
theorem ev_neI {i j : Int} (ha : Ev ta G W (dI i)) (hb : Ev tb G W (dI j)) : Ev (tOp rNe ta tb) G W (dB (!decide (i = j))) := (ev_neS ha hb rfl).to (by rw [dec_int])
theorem ev_divN {m k : Nat} (ha : Ev ta G W (dN m)) (hb : Ev tb G W (dI (k : Int))) (hk : 0 < k ∧ k < 1073741824) : Ev (tOp (rI CDiv fun i j => .int (i / j)) ta tb) G W (dN (m / k)) :=
  (ev_I (C := CDiv) ha hb ⟨by omega, by omega⟩).to (by show dI ((m : Int) / (k : Int)) = dI ((m / k : Nat) : Int); rw [Int.natCast_ediv])
theorem ev_modN {m k : Nat} (ha : Ev ta G W (dN m)) (hb : Ev tb G W (dI (k : Int))) (hk : 0 < k) : Ev (tOp (rI (fun _ j => 0 < j) fun i j => .int (i % j)) ta tb) G W (dN (m % k)) :=
  (ev_I (C := fun _ j => 0 < j) ha hb (by omega)).to (by show dI ((m : Int) % (k : Int)) = dI ((m % k : Nat) : Int); rw [Int.natCast_emod])
theorem ev_addN {m k : Nat} (ha : Ev ta G W (dN m)) (hb : Ev tb G W (dN k)) : Ev (tOp (rI0 fun i j => .int (i + j)) ta tb) G W (dN (m + k)) :=
  (ev_I0 ha hb).to (by show dI ((m : Int) + (k : Int)) = dI ((m + k : Nat) : Int); rw [Int.natCast_add])
/-! texts -/
theorem ev_catS {x y : Str} {r : R2} (hr : r = fun x y H Q => ∃ i j, x = .str i ∧ y = .str j ∧ i.length + j.length ≤ sizeLine ∧ Q (.str (i ++ j)) H) (ha : Ev ta G W (dS x)) (hb : Ev tb G W (dS y)) (hl : x.length + y.length ≤ sizeLine) : Ev (tOp r ta tb) G W (dS (x ++ y)) := by
  subst hr
  exact ev_op ha hb fun W1 _ u v eu ev Q q => ⟨x, y, eu, ev, hl, q _ W1 (Le.refl _) rfl⟩
/-! lists -/
theorem sqL_of {W : Wd} {p : Addr} {vs : List V} (h : W.F p = some (.lst vs)) : SqL K W.H p vs := .inl (.inl (W.sub _ _ h))
theorem ev_ixL {ds : List Dsc} {j : Nat} (ha : Ev ta G W (dL ds)) (hb : Ev tb G W (dI (j : Int))) (hd : ds[j]? = some d) : Ev (tOp (rIxL K) ta tb) G W d :=
  ev_op ha hb fun W1 _ x y ⟨p, vs, ex, hp, hv⟩ ey Q q => by
    obtain ⟨v, h1, h2⟩ := hv.get hd
    exact ⟨p, vs, _, v, ex, ey, sqL_of hp, atI_nat h1, q v W1 (Le.refl _) h2⟩
theorem ev_ixT {ds : List Dsc} {j : Nat} (ha : Ev ta G W (dT K ds)) (hb : Ev tb G W (dI (j : Int))) (hd : ds[j]? = some d) : Ev (tOp (rIxT K) ta tb) G W d :=
  ev_op ha hb fun W1 _ x y ⟨p, vs, ex, hp, hv⟩ ey Q q => by
    obtain ⟨v, h1, h2⟩ := hv.get hd
    exact ⟨p, vs, _, v, ex, ey, SqT.mono W1.sub hp, atI_nat h1, q v W1 (Le.refl _) h2⟩
theorem ev_ixS {s : Str} {j c : Nat} (ha : Ev ta G W (dS s)) (hb : Ev tb G W (dI (j : Int))) (hl : s.length ≤ sizeLine) (hd : s.cps.toList[j]? = some c) : Ev (tOp rIxS ta tb) G W (dS ⟨#[c]⟩) :=
  ev_op ha hb fun W1 _ x y ex ey Q q => ⟨s, _, c, ex, ey, hl, atI_nat hd, q _ W1 (Le.refl _) rfl⟩
/-- a + b, two lists -/
theorem evO_cat {ds es : List Dsc} (ha : Ev ta G W (dL ds)) (hb : Ev tb G W (dL es)) (hl : ds.length + es.length ≤ sizeLine) : EvO (tOp rCat ta tb) G W (ds ++ es) :=
  evO_op ha hb fun W1 _ x y ⟨p, vs, ex, hp, hv⟩ ⟨p2, us, ey, hp2, hu⟩ Q q => ⟨p, p2, vs, us, ex, ey, W1.sub _ _ hp, W1.sub _ _ hp2, by rw [hv.len, hu.len]; exact hl, fun a n => q a _ n (hv.app hu)⟩
/-- x in xs -/
theorem ev_inL {x : V} {xs : List V} {neg : Bool} (ha : Ev ta G W (dV x)) (hb : Ev tb G W (dL (xs.map dV))) (hx : flatV x = true) (hf : xs.all flatV = true) : Ev (tOp (rIn K neg) ta tb) G W (dB (if neg then !inV x xs else inV x xs)) :=
  ev_op ha hb fun W1 _ u v eu ⟨p, vs, ev, hp, hv⟩ Q q => by
    cases eu
    obtain rfl := AllD.of_vals hv
    exact ⟨p, vs, ev, .inl (sqL_of hp), hx, hf, q _ W1 (Le.refl _) rfl⟩
theorem ev_inT {x : V} {xs : List V} {neg : Bool} (ha : Ev ta G W (dV x)) (hb : Ev tb G W (dT K (xs.map dV))) (hx : flatV x = true) (hf : xs.all flatV = true) : Ev (tOp (rIn K neg) ta tb) G W (dB (if neg then !inV x xs else inV x xs)) :=
  ev_op ha hb fun W1 _ u v eu ⟨p, vs, ev, hp, hv⟩ Q q => by
    cases eu
    obtain rfl := AllD.of_vals hv
    exact ⟨p, vs, ev, .inr (SqT.mono W1.sub hp), hx, hf, q _ W1 (Le.refl _) rfl⟩
/-! == of data -/
def IsDat (K : PySem.W.Frag) (d : Dsc) (x : PyData) : Prop := ∀ v (W : Wd), d.ok v W.F → Dp K W.H v x
theorem isDat_int {i : Int} : IsDat K (dI i) (.int i) := fun v W e => by cases e; exact .int i
theorem isDat_str {s : Str} : IsDat K (dS s) (.str s) := fun v W e => by cases e; exact .str s
theorem isDat_all {ds : List Dsc} {xs : List PyData} (h : ∀ (i : Nat) d x, ds[i]? = some d → xs[i]? = some x → IsDat K d x) (hl : ds.length = xs.length) (W : Wd) : ∀ vs, AllD ds vs W.F → DpAll K W.H vs xs := by
  induction ds generalizing xs with
  | nil =>
    cases xs with
    | nil => intro vs a; cases vs with
      | nil => exact .nil
      | cons _ _ => exact a.elim
    | cons _ _ => cases hl
  | cons d ds ih =>
    cases xs with
    | nil => cases hl
    | cons x xs =>
      intro vs a
      cases vs with
      | nil => exact a.elim
      | cons v vs => exact .cons (h 0 d x rfl rfl v W a.1) (ih (fun i d' x' e1 e2 => h (i + 1) d' x' (by simpa using e1) (by simpa using e2)) (Nat.succ.inj hl) vs a.2)
theorem isDat_L {ds : List Dsc} {xs : List PyData} (h : ∀ (i : Nat) d x, ds[i]? = some d → xs[i]? = some x → IsDat K d x) (hl : ds.length = xs.length) : IsDat K (dL ds) (.list xs) := fun v W ⟨p, vs, e, hp, a⟩ => by
  subst e
  exact .lst (sqL_of hp) (isDat_all h hl W vs a)
theorem isDat_T {ds : List Dsc} {xs : List PyData} (h : ∀ (i : Nat) d x, ds[i]? = some d → xs[i]? = some x → IsDat K d x) (hl : ds.length = xs.length) : IsDat K (dT K ds) (.tuple xs) := fun v W ⟨p, vs, e, hp, a⟩ => by
  subst e
  exact .tup (SqT.mono W.sub hp) (isDat_all h hl W vs a)
theorem isDat_Lm {α : Type} {f : α → Dsc} {g : α → PyData} (l : List α) (h : ∀ a, IsDat K (f a) (g a)) : IsDat K (dL (l.map f)) (.list (l.map g)) := isDat_L (fun i d x e1 e2 => by
  rw [List.getElem?_map] at e1 e2
  cases q : l[i]? with
  | none => rw [q] at e1; cases e1
  | some a =>
    rw [q] at e1 e2
    cases e1; cases e2
    exact h a) (by rw [List.length_map, List.length_map])
theorem ev_eqD {x y : PyData} (ha : Ev ta G W d1) (hb : Ev tb G W d2) (h1 : IsDat K d1 x) (h2 : IsDat K d2 y) (s1 : SeqAt.shaped x = true) (s2 : SeqAt.shaped y = true) : Ev (tOp (rEqD K) ta tb) G W (dB (PyData.eqv x y)) :=
  ev_op ha hb fun W1 _ u v eu ev Q q => ⟨x, y, h1 u W1 eu, h2 v W1 ev, s1, s2, q _ W1 (Le.refl _) rfl⟩
theorem ev_neD {x y : PyData} (ha : Ev ta G W d1) (hb : Ev tb G W d2) (h1 : IsDat K d1 x) (h2 : IsDat K d2 y) (s1 : SeqAt.shaped x = true) (s2 : SeqAt.shaped y = true) : Ev (tOp (rNeD K) ta tb) G W (dB (!PyData.eqv x y)) :=
  ev_op ha hb fun W1 _ u v eu ev Q q => ⟨x, y, h1 u W1 eu, h2 v W1 ev, s1, s2, q _ W1 (Le.refl _) rfl⟩
/-! argument lists, displays -/
theorem ea_nil : EvA tNil G W [] := fun _ W1 _ _ Q q => q [] W1 (Le.refl _) trivial
theorem ea_cons {t : TA} {ds : List Dsc} (ha : Ev ta G W d) (hr : EvA t G W ds) : EvA (tCons ta t) G W (d :: ds) := fun σ W1 l s Q q =>
  ha σ W1 l s _ fun x W2 l2 o2 => hr σ W2 (l.trans l2) (s.mono l2) _ fun vs W3 l3 a3 => q (x :: vs) W3 (l2.trans l3) ⟨d.mono l3.f o2, a3⟩
theorem ev_tup {t : TA} {ds : List Dsc} (h : EvA t G W ds) (hl : Nat.ble ds.length 100 = true := by rfl) : Ev (tTup t) G W (dT K ds) := fun σ W1 l s Q q =>
  h σ W1 l s _ fun vs W2 l2 a => ⟨by rw [a.len]; exact Nat.le_trans (Nat.le_of_ble_eq_true hl) (by decide), fun p hp => q _ (W2.add p (.tup vs)) (l2.trans (Le.add hp)) ⟨p, vs, rfl, .inl (.inl upd_same), a.mono (Le.add (o := .tup vs) hp).f⟩⟩
theorem evO_lst {t : TA} {ds : List Dsc} (h : EvA t G W ds) (hl : Nat.ble ds.length 100 = true := by rfl) : EvO (tLst t) G W ds := fun σ W1 l s Q q =>
  h σ W1 l s _ fun vs W2 l2 a => ⟨by rw [a.len]; exact Nat.le_trans (Nat.le_of_ble_eq_true hl) (by decide), fun p hp => q p vs (W2.own p (.lst vs) (W2.freeF hp) noTup_lst) (l2.trans (Le.own hp noTup_lst)) (l2.h.free hp) (W2.freeF hp) upd_same a⟩
/-! attributes -/
theorem ev_fld {C : Addr} {fs : List (Str × Dsc)} {f : Str} (ha : Ev ta G W (dO C fs)) (hc : Cls K C) (hn : NoAttr K C f) (hl : fs.lookup f = some d) : Ev (tFld K ta f) G W d := fun σ W1 l s Q q =>
  ha σ W1 l s _ fun x W2 l2 ⟨a, dx, vs, ex, hp, hv⟩ => by
    obtain ⟨v, h1, h2⟩ := hv.look hl
    exact ⟨a, C, dx, vs, v, ex, W2.sub _ _ hp, hc, hn, h1, q v W2 l2 h2⟩
/-! calls -/
def spOf {α : Type} (pre : α → Prop) (dom : α → List Dsc) (cod : α → Dsc) : Sp := fun vs H Q _ => ∃ (a : α) (W : Wd), W.H = H ∧ pre a ∧ AllD (dom a) vs W.F ∧ ∀ v U, Le W U → (cod a).ok v U.F → Q v U.H
/-- .. whose answer is a new list -/
def spOwn {α : Type} (pre : α → Prop) (dom : α → List Dsc) (cod : α → List Dsc) : Sp := fun vs H Q _ => ∃ (a : α) (W : Wd), W.H = H ∧ pre a ∧ AllD (dom a) vs W.F ∧
  ∀ p vs U, Le W U → W.H p = none → U.F p = none → U.H p = some (.lst vs) → AllD (cod a) vs U.F → Q (.ref p) U.H
theorem ev_call {α : Type} {pre : α → Prop} {dom : α → List Dsc} {cod : α → Dsc} {t : TA} (a : α) (hp : pre a) (h : EvA t G W (dom a)) : Ev (tCall (spOf pre dom cod) [] E0 t) G W (cod a) := fun σ W1 l s Q q =>
  h σ W1 l s _ fun vs W2 l2 o => ⟨a, W2, rfl, hp, by rw [List.append_nil]; exact o, fun v U l3 o3 => q v U (l2.trans l3) o3⟩
theorem evO_call {α : Type} {pre : α → Prop} {dom : α → List Dsc} {cod : α → List Dsc} {t : TA} (a : α) (hp : pre a) (h : EvA t G W (dom a)) : EvO (tCall (spOwn pre dom cod) [] E0 t) G W (cod a) := fun σ W1 l s Q q =>
  h σ W1 l s _ fun vs W2 l2 o => ⟨a, W2, rfl, hp, by rw [List.append_nil]; exact o, fun p us U l3 n f hp a3 => q p us U (l2.trans l3) (l2.h.free n) f hp a3⟩
/-! tests -/
theorem et_test (h : Ev te G W (dB b)) : EvT (tTest te) G W b := fun σ W1 l s Q q => h σ W1 l s _ fun x W2 l2 e => ⟨b, e, q W2 l2⟩
theorem et_B (h : Ev te G W (dB b)) : EvT (tB te) G W b := fun σ W1 l s Q q => h σ W1 l s _ fun x W2 l2 e => ⟨b, e, q W2 l2⟩
theorem et_and {t u : TT} {c : Bool} (h1 : EvT t G W b) (h2 : b = true → EvT u G W c) : EvT (tAnd t u) G W (b && c) := fun σ W1 l s Q q => h1 σ W1 l s _ fun W2 l2 => by
  cases b with
  | true => exact h2 rfl σ W2 (l.trans l2) (s.mono l2) Q fun W3 l3 => q W3 (l2.trans l3)
  | false => exact q W2 l2
theorem et_or {t u : TT} {c : Bool} (h1 : EvT t G W b) (h2 : b = false → EvT u G W c) : EvT (tOr t u) G W (b || c) := fun σ W1 l s Q q => h1 σ W1 l s _ fun W2 l2 => by
  cases b with
  | true => exact q W2 l2
  | false => exact h2 rfl σ W2 (l.trans l2) (s.mono l2) Q fun W3 l3 => q W3 (l2.trans l3)
theorem et_not {t : TT} (h : EvT t G W b) : EvT (tNot t) G W (!b) := fun σ W1 l s Q q => h σ W1 l s _ fun W2 l2 => q W2 l2
theorem ev_and {c : Bool} (h1 : Ev ta G W (dB b)) (h2 : b = true → Ev tb G W (dB c)) : Ev (tAndV ta tb) G W (dB (b && c)) := fun σ W1 l s Q q => h1 σ W1 l s _ fun x W2 l2 e => ⟨b, e, by
  cases b with
  | true => exact h2 rfl σ W2 (l.trans l2) (s.mono l2) Q fun v W3 l3 o => q v W3 (l2.trans l3) o
  | false => exact q _ W2 l2 rfl⟩
theorem ev_or {c : Bool} (h1 : Ev ta G W (dB b)) (h2 : b = false → Ev tb G W (dB c)) : Ev (tOrV ta tb) G W (dB (b || c)) := fun σ W1 l s Q q => h1 σ W1 l s _ fun x W2 l2 e => ⟨b, e, by
  cases b with
  | true => exact q _ W2 l2 rfl
  | false => exact h2 rfl σ W2 (l.trans l2) (s.mono l2) Q fun v W3 l3 o => q v W3 (l2.trans l3) o⟩
theorem ev_not (h : Ev te G W (dB b)) : Ev (tNotV te) G W (dB (!b)) := fun σ W1 l s Q q => h σ W1 l s _ fun x W2 l2 e => ⟨b, e, q _ W2 l2 rfl⟩
theorem ev_if {t : TT} (hc : EvT t G W b) (h1 : b = true → Ev ta G W d) (h2 : b = false → Ev tb G W d) : Ev (tIf t ta tb) G W d := fun σ W1 l s Q q => hc σ W1 l s _ fun W2 l2 => by
  cases b with
  | true => exact h1 rfl σ W2 (l.trans l2) (s.mono l2) Q fun v W3 l3 o => q v W3 (l2.trans l3) o
  | false => exact h2 rfl σ W2 (l.trans l2) (s.mono l2) Q fun v W3 l3 o => q v W3 (l2.trans l3) o
/-- a < b < c: the third is asked only if the first answer is yes -/
theorem ev_chain {r r' : R2} {i j k : Int} {tc : TE} {p p' : Int → Int → Bool} (hr : r = rI0 fun i j => .bl (p i j)) (hr' : r' = rI0 fun i j => .bl (p' i j)) (ha : Ev ta G W (dI i)) (hb : Ev tb G W (dI j)) (hc : Ev tc G W (dI k)) : Ev (tChain r r' ta tb tc) G W (dB (p i j && p' j k)) := by
  subst hr hr'
  intro σ W1 l s Q q
  refine ha σ W1 l s _ fun x W2 l2 e2 => hb σ W2 (l.trans l2) (s.mono l2) _ fun y W3 l3 e3 => ⟨i, j, e2, e3, p i j, rfl, ?_⟩
  cases hp : p i j with
  | true =>
    show (if true = true then _ else _)
    rw [if_pos rfl]
    refine hc σ W3 ((l.trans l2).trans l3) ((s.mono l2).mono l3) _ fun z W4 l4 e4 => ⟨j, k, e3, e4, q _ W4 ((l2.trans l3).trans l4) (by rw [hp]; rfl)⟩
  | false =>
    show (if false = true then _ else _)
    rw [if_neg Bool.false_ne_true]
    exact q _ W3 (l2.trans l3) (by rw [hp]; rfl)
/-! built-ins -/
theorem ev_cb {r : List V → Hp → VK → Prop} {t : TA} {ds : List Dsc} (h : EvA t G W ds) (hr : ∀ W1, Le W W1 → ∀ vs, AllD ds vs W1.F → ∀ Q : VK, (∀ v W2, Le W1 W2 → d.ok v W2.F → Q v W2.H) → r vs W1.H Q) : Ev (tCB r t) G W d := fun σ W1 l s Q q =>
  h σ W1 l s _ fun vs W2 l2 a => hr W2 (l.trans l2) vs a Q fun v W3 l3 o => q v W3 (l2.trans l3) o
theorem AllD.one {d : Dsc} {vs : List V} {F : Hp} (h : AllD [d] vs F) : ∃ v, vs = [v] ∧ d.ok v F := by
  match vs, h with
  | [v], h => exact ⟨v, rfl, h.1⟩
  | _ :: _ :: _, h => exact h.2.elim
theorem ev_lenL {r : List V → Hp → VK → Prop} {ds : List Dsc} (hr : r = fun xs H Q => ∃ p ys, xs = [.ref p] ∧ (SqL K H p ys ∨ SqT K H p ys) ∧ Q (.int ys.length) H) (h : Ev te G W (dL ds)) : Ev (tCB r (tCons te tNil)) G W (dN ds.length) := by
  subst hr
  refine ev_cb (ea_cons h ea_nil) fun W1 _ vs a Q q => ?_
  obtain ⟨v, rfl, p, us, rfl, hp, hu⟩ := a.one
  exact ⟨p, us, rfl, .inl (sqL_of hp), q _ W1 (Le.refl _) (by rw [hu.len]; rfl)⟩
theorem ev_sum {ns : List Int} (h : Ev te G W (dIs ns)) : Ev (tCB (rSum K) (tCons te tNil)) G W (dI ns.sum) := by
  refine ev_cb (ea_cons h ea_nil) fun W1 _ vs a Q q => ?_
  obtain ⟨v, rfl, p, us, rfl, hp, hu⟩ := a.one
  have e : us = ns.map V.int := AllD.of_vals (by rw [List.map_map]; exact hu)
  subst e
  exact ⟨p, ns, rfl, sqL_of hp, q _ W1 (Le.refl _) rfl⟩
theorem ev_all {bs : List Bool} (h : Ev te G W (dL (bs.map dB))) : Ev (tCB (rAll K) (tCons te tNil)) G W (dB (bs.all id)) := by
  refine ev_cb (ea_cons h ea_nil) fun W1 _ vs a Q q => ?_
  obtain ⟨v, rfl, p, us, rfl, hp, hu⟩ := a.one
  have e : us = bs.map V.bl := AllD.of_vals (by rw [List.map_map]; exact hu)
  subst e
  exact ⟨p, bs, rfl, sqL_of hp, q _ W1 (Le.refl _) rfl⟩
theorem ev_any {bs : List Bool} (h : Ev te G W (dL (bs.map dB))) : Ev (tCB (rAny K) (tCons te tNil)) G W (dB (bs.any id)) := by
  refine ev_cb (ea_cons h ea_nil) fun W1 _ vs a Q q => ?_
  obtain ⟨v, rfl, p, us, rfl, hp, hu⟩ := a.one
  have e : us = bs.map V.bl := AllD.of_vals (by rw [List.map_map]; exact hu)
  subst e
  exact ⟨p, bs, rfl, sqL_of hp, q _ W1 (Le.refl _) rfl⟩
/-- max, min: the greatest, the least -/
theorem ev_max {ns : List Int} {m : Int} (h : Ev te G W (dIs ns)) (hm : m ∈ ns) (hg : ∀ y, y ∈ ns → y ≤ m) : Ev (tCB (rMax K) (tCons te tNil)) G W (dI m) := by
  refine ev_cb (ea_cons h ea_nil) fun W1 _ vs a Q q => ?_
  obtain ⟨v, rfl, p, us, rfl, hp, hu⟩ := a.one
  have e : us = ns.map V.int := AllD.of_vals (by rw [List.map_map]; exact hu)
  subst e
  refine ⟨p, ns, rfl, sqL_of hp, List.length_pos_of_mem hm, fun k hk hk2 => ?_⟩
  have e2 : k = m := Int.le_antisymm (hg k hk) (hk2 m hm)
  subst e2
  exact q _ W1 (Le.refl _) rfl
theorem ev_min {ns : List Int} {m : Int} (h : Ev te G W (dIs ns)) (hm : m ∈ ns) (hg : ∀ y, y ∈ ns → m ≤ y) : Ev (tCB (rMin K) (tCons te tNil)) G W (dI m) := by
  refine ev_cb (ea_cons h ea_nil) fun W1 _ vs a Q q => ?_
  obtain ⟨v, rfl, p, us, rfl, hp, hu⟩ := a.one
  have e : us = ns.map V.int := AllD.of_vals (by rw [List.map_map]; exact hu)
  subst e
  refine ⟨p, ns, rfl, sqL_of hp, List.length_pos_of_mem hm, fun k hk hk2 => ?_⟩
  have e2 : k = m := Int.le_antisymm (hk2 m hm) (hg k hk)
  subst e2
  exact q _ W1 (Le.refl _) rfl
/-- list(xs) -/
theorem evO_list {r : List V → Hp → VK → Prop} {ds : List Dsc} (hr : r = fun xs H Q => ∃ p ys, xs = [.ref p] ∧ (SqL K H p ys ∨ SqT K H p ys) ∧ ∀ l, H l = none → Q (.ref l) (upd H l (.lst ys))) (h : Ev te G W (dL ds)) : EvO (tCB r (tCons te tNil)) G W ds := by
  subst hr
  intro σ W1 l s Q q
  refine h σ W1 l s _ fun v W2 l2 ⟨p, us, ev, hp, hu⟩ => ⟨p, us, by rw [ev], .inl (sqL_of hp), fun n hn => ?_⟩
  exact q n us (W2.own n (.lst us) (W2.freeF hn) noTup_lst) (l2.trans (Le.own hn noTup_lst)) (l2.h.free hn) (W2.freeF hn) upd_same hu
/-! slices -/
theorem evp_no : EvP tNoPart G W none := fun _ W1 _ _ Q q => q W1 (Le.refl _)
theorem evp_some {i : Int} (h : Ev te G W (dI i)) : EvP (tPart te) G W (some i) := fun σ W1 l s Q q => h σ W1 l s _ fun x W2 l2 e => ⟨i, e, q W2 l2⟩
def cutD (ds : List Dsc) (lo hi : Option Int) : List Dsc := (ds.drop (HT.sIx ds.length 0 lo)).take (HT.sIx ds.length ds.length hi - HT.sIx ds.length 0 lo)
theorem evO_slL {tl th : TO} {ds : List Dsc} {lo hi : Option Int} (h : Ev te G W (dL ds)) (hl : EvP tl G W lo) (hh : EvP th G W hi) : EvO (tSl (rSlL K) te tl th) G W (cutD ds lo hi) := fun σ W1 l s Q q =>
  h σ W1 l s _ fun v W2 l2 ⟨p, us, ev, hp, hu⟩ => hl σ W2 (l.trans l2) (s.mono l2) _ fun W3 l3 => hh σ W3 ((l.trans l2).trans l3) ((s.mono l2).mono l3) _ fun W4 l4 => by
    refine ⟨p, us, ev, sqL_of ((l3.trans l4).f _ _ hp), fun n hn => ?_⟩
    have l14 := (l2.trans l3).trans l4
    have hu4 := hu.mono (l3.trans l4).f
    refine q n (cutV us lo hi) (W4.own n _ (W4.freeF hn) noTup_lst) (l14.trans (Le.own hn noTup_lst)) (l14.h.free hn) (W4.freeF hn) upd_same ?_
    unfold cutV cutD
    rw [← hu4.len]
    exact (hu4.drop _).take _
end
end Fd

namespace Fd
open PySem PySem.Spec PyProof.Rows L2

/-! ### statements: one that ends the def, one that goes on -/
/-- W: the def's entry; what is returned may lie behind changes of what the def itself has made -/
def Rt (t : TS) (G : En) (W : Wd) (R : V → Wd → Prop) : Prop := ∀ σ W1, Le W W1 → Sat G σ W1 → ∀ D : Ends, (∀ v W2, Le W W2 → R v W2 → D.rt v W2.H) → t D σ W1.H
def Nx (t : TS) (G : En) (W : Wd) (G' : En) : Prop := ∀ σ W1, Le W W1 → Sat G σ W1 → ∀ D : Ends, (∀ σ' W2, Le W W2 → Same W1.F W2.F → Sat G' σ' W2 → D.nx σ' W2.H) → t D σ W1.H
abbrev rD (d : Dsc) : V → Wd → Prop := fun v W => d.ok v W.F
/-- a new list -/
def rO (W0 : Wd) (ds : List Dsc) : V → Wd → Prop := fun v W => ∃ p vs, v = .ref p ∧ W0.H p = none ∧ W.F p = none ∧ W.H p = some (.lst vs) ∧ AllD ds vs W.F
section
variable {G G1 G2 : En} {W : Wd} {d : Dsc} {te : TE} {t u : TS} {b : Bool} {K : PySem.W.Frag} {R : V → Wd → Prop} {c : TT}
theorem rt_seq (h : Nx t G W G1) (k : Rt u G1 W R) : Rt (tSeq t u) G W R := fun σ W1 l s D q => h σ W1 l s _ fun σ' W2 l2 _ s2 => k σ' W2 l2 s2 _ q
theorem rt_one (h : Rt t G W R) : Rt (tSeq t u) G W R := fun σ W1 l s D q => h σ W1 l s _ q
theorem nx_seq (h : Nx t G W G1) (k : Nx u G1 W G2) : Nx (tSeq t u) G W G2 := fun σ W1 l s D q => h σ W1 l s _ fun σ' W2 l2 f2 s2 => k σ' W2 l2 s2 _ fun σ2 W3 l3 f3 s3 => q σ2 W3 l3 (f2.trans f3) s3
theorem nx_skip : Nx tNext G W G := fun σ W1 l s D q => q σ W1 l (Same.refl _) s
theorem nx_to (h : Nx t G W G1) (e : G1 = G2) : Nx t G W G2 := e ▸ h
theorem rt_ret (h : Ev te G W d) : Rt (tRet te) G W (rD d) := fun σ W1 l s D q => h σ W1 l s _ fun v W2 l2 o => q v W2 (l.trans l2) o
theorem rt_retO {ds : List Dsc} (h : EvO te G W ds) : Rt (tRet te) G W (rO W ds) := fun σ W1 l s D q => h σ W1 l s _ fun p vs W2 l2 n f hp a => q _ W2 (l.trans l2) ⟨p, vs, rfl, l.h.free n, f, hp, a⟩
theorem rt_imp {R' : V → Wd → Prop} (h : Rt t G W R) (k : ∀ v W2, Le W W2 → R v W2 → ∃ W3, W3.H = W2.H ∧ Le W W3 ∧ R' v W3) : Rt t G W R' := fun σ W1 l s D q => h σ W1 l s D fun v W2 l2 r => by
  obtain ⟨W3, e, l3, r3⟩ := k v W2 l2 r
  rw [← e]
  exact q v W3 l3 r3
theorem frz_own {p : Addr} {vs : List V} {ds : List Dsc} {W2 : Wd} (l : Le W W2) (n : W.H p = none) (f : W2.F p = none) (hp : W2.H p = some (.lst vs)) (a : AllD ds vs W2.F) : Le W (W2.frz p (.lst vs) hp) ∧ (dL ds).ok (.ref p) (W2.frz p (.lst vs) hp).F :=
  ⟨l.frz n f hp, p, vs, rfl, upd_same, a.mono fun b u e => by
    show upd W2.F p _ b = some u
    rw [upd_ne (ne_of_none e f)]
    exact e⟩
/-- a new list is handed back frozen -/
theorem rt_frz {ds : List Dsc} (h : Rt t G W (rO W ds)) : Rt t G W (rD (dL ds)) := rt_imp h fun v W2 l ⟨p, vs, e, n, f, hp, a⟩ => by
  subst e
  exact ⟨W2.frz p (.lst vs) hp, rfl, (frz_own l n f hp a).1, (frz_own l n f hp a).2⟩
/-- the list in a slot is handed back -/
theorem rt_retV {i : Nat} {ds : List Dsc} (h : G[i]? = some (some (.ow (ownL W ds))) := by rfl) : Rt (tRet (tVar i)) G W (rO W ds) := fun σ W1 l s D q => by
  obtain ⟨v, a, p, vs, e, n, f, hp, k⟩ := s.get h
  exact ⟨v, a, q v W1 l ⟨p, vs, e, n, f, hp, k⟩⟩
theorem rt_frzV {i : Nat} {ds : List Dsc} (h : G[i]? = some (some (.ow (ownL W ds))) := by rfl) : Rt (tRet (tVar i)) G W (rD (dL ds)) := rt_frz (rt_retV h)
theorem rt_ifT (hc : EvT c G W true) (h : Rt t G W R) : Rt (tIfS c t u) G W R := fun σ W1 l s D q => hc σ W1 l s _ fun W2 l2 => by
  show (if true = true then _ else _)
  rw [if_pos rfl]
  exact h σ W2 (l.trans l2) (s.mono l2) D q
theorem rt_ifF (hc : EvT c G W false) (h : Rt u G W R) : Rt (tIfS c t u) G W R := fun σ W1 l s D q => hc σ W1 l s _ fun W2 l2 => by
  show (if false = true then _ else _)
  rw [if_neg Bool.false_ne_true]
  exact h σ W2 (l.trans l2) (s.mono l2) D q
theorem rt_if (hc : EvT c G W b) (h1 : b = true → Rt t G W R) (h2 : b = false → Rt u G W R) : Rt (tIfS c t u) G W R := by
  cases b with
  | true => exact rt_ifT hc (h1 rfl)
  | false => exact rt_ifF hc (h2 rfl)
theorem nx_ifT (hc : EvT c G W true) (h : Nx t G W G1) : Nx (tIfS c t u) G W G1 := fun σ W1 l s D q => hc σ W1 l s _ fun W2 l2 => by
  show (if true = true then _ else _)
  rw [if_pos rfl]
  exact h σ W2 (l.trans l2) (s.mono l2) D fun σ' W3 l3 f3 s3 => q σ' W3 l3 (l2.f.trans f3) s3
theorem nx_ifF (hc : EvT c G W false) (h : Nx u G W G1) : Nx (tIfS c t u) G W G1 := fun σ W1 l s D q => hc σ W1 l s _ fun W2 l2 => by
  show (if false = true then _ else _)
  rw [if_neg Bool.false_ne_true]
  exact h σ W2 (l.trans l2) (s.mono l2) D fun σ' W3 l3 f3 s3 => q σ' W3 l3 (l2.f.trans f3) s3
theorem nx_if (hc : EvT c G W b) (h1 : b = true → Nx t G W G1) (h2 : b = false → Nx u G W G1) : Nx (tIfS c t u) G W G1 := by
  cases b with
  | true => exact nx_ifT hc (h1 rfl)
  | false => exact nx_ifF hc (h2 rfl)
/-- if c: return .. , then the rest -/
theorem rt_ifR (hc : EvT c G W b) (h1 : b = true → Rt t G W R) (h2 : b = false → Rt u G W R) : Rt (tSeq (tIfS c t tNext) u) G W R := by
  cases b with
  | true => exact rt_one (rt_ifT hc (h1 rfl))
  | false => exact rt_seq (nx_ifF hc nx_skip) (h2 rfl)
/-! stores -/
theorem nx_set {i : Nat} (h : Ev te G W d) : Nx (tAsg te (gName i)) G W (G.set i (some (.pl d))) := fun σ W1 l s D q => h σ W1 l s _ fun v W2 l2 o => q _ W2 (l.trans l2) l2.f ((s.mono l2).set (t := .pl d) o i)
theorem nx_setO {i : Nat} {ds : List Dsc} (h : EvO te G W ds) : Nx (tAsg te (gName i)) G W (G.set i (some (.ow (ownL W ds)))) := fun σ W1 l s D q => h σ W1 l s _ fun p vs W2 l2 n f hp a =>
  q _ W2 (l.trans l2) l2.f ((s.mono l2).set (t := .ow (ownL W ds)) ⟨p, vs, rfl, l.h.free n, f, hp, a⟩ i)
/-- a, b = e, [] -/
theorem nx_parO {i j : Nat} {ta tb : TE} {ds : List Dsc} (ha : Ev ta G W d) (hb : EvO tb G W ds) : Nx (tPar i j (tCons ta (tCons tb tNil))) G W ((G.set i (some (.pl d))).set j (some (.ow (ownL W ds)))) := fun σ W1 l s D q =>
  ha σ W1 l s _ fun v W2 l2 o => hb σ W2 (l.trans l2) (s.mono l2) _ fun p vs W3 l3 n f hp a => ⟨_, _, rfl, q _ W3 ((l.trans l2).trans l3) (l2.trans l3).f
    ((((s.mono l2).mono l3).set (t := .pl d) (d.mono l3.f o) i).set (t := .ow (ownL W ds)) ⟨p, vs, rfl, (l.trans l2).h.free n, f, hp, a⟩ j)⟩
theorem nx_par {i j : Nat} {ta tb : TE} {d' : Dsc} (ha : Ev ta G W d) (hb : Ev tb G W d') : Nx (tPar i j (tCons ta (tCons tb tNil))) G W ((G.set i (some (.pl d))).set j (some (.pl d'))) := fun σ W1 l s D q =>
  ha σ W1 l s _ fun v W2 l2 o => hb σ W2 (l.trans l2) (s.mono l2) _ fun v' W3 l3 o' => ⟨_, _, rfl, q _ W3 ((l.trans l2).trans l3) (l2.trans l3).f
    ((((s.mono l2).mono l3).set (t := .pl d) (d.mono l3.f o) i).set (t := .pl d') o' j)⟩
/-- the list in slot i grows by one -/
theorem Sat.regrow {σ : L2.St} {W1 W2 : Wd} {i : Nat} {o : Own} {p : Addr} (e : W1.F = W2.F) (hs : σ[i]? = some (some (.ref p))) (hp : plainE (G.set i none) = true) (s : Sat G σ W1) (q : o.ok (.ref p) W2) (hi : i < σ.length) : Sat (G.set i (some (.ow o))) σ W2 := by
  have s1 := (s.forget i).plain e hp
  have s2 := s1.set (t := .ow o) q i
  rw [List.set_set] at s2
  have e2 : σ.set i (some (.ref p)) = σ := by
    have h1 := (List.getElem?_eq_some_iff.mp hs)
    obtain ⟨h1, h2⟩ := h1
    rw [← h2]
    exact List.set_getElem_self h1
  rw [e2] at s2
  exact s2
theorem nx_app {i : Nat} {ds : List Dsc} (hG : G[i]? = some (some (.ow (ownL W ds)))) (hp : plainE (G.set i none) = true) (h : Ev te G W d) (hl : ds.length < sizeLine) :
    Nx (tDrop (tBM K "list" rAppend (tVar i) (tCons te tNil))) G W (G.set i (some (.ow (ownL W (ds ++ [d]))))) := fun σ W1 l s D q => by
  obtain ⟨v, hv, p, vs, e, n, f, hH, a⟩ := s.get hG
  subst e
  refine ⟨_, hv, .inl ⟨rfl, vs, .inl (.inl hH)⟩, ?_⟩
  refine h σ W1 l s _ fun x W2 l2 o => ?_
  have f2 : W2.F p = none := l2.new _ _ hH f
  have hH2 := l2.h _ _ hH
  refine ⟨p, vs, x, rfl, rfl, hH2, by rw [a.len]; exact hl, ?_⟩
  have l3 : Le W (W2.own p (.lst (vs ++ [x])) f2 noTup_lst) := (l.trans l2).chg n f2 noTup_lst
  refine q σ (W2.own p (.lst (vs ++ [x])) f2 noTup_lst) l3 l2.f (Sat.regrow (W1 := W2) rfl hv hp (s.mono l2) ⟨p, _, rfl, n, f2, upd_same, (a.mono l2.f).app ⟨o, trivial⟩⟩ (List.getElem?_eq_some_iff.mp hv).1)
theorem nx_ext {i : Nat} {ds es : List Dsc} (hG : G[i]? = some (some (.ow (ownL W ds)))) (hp : plainE (G.set i none) = true) (h : Ev te G W (dL es)) (hl : ds.length + es.length ≤ sizeLine) :
    Nx (tDrop (tBM K "list" rExtend (tVar i) (tCons te tNil))) G W (G.set i (some (.ow (ownL W (ds ++ es))))) := fun σ W1 l s D q => by
  obtain ⟨v, hv, p, vs, e, n, f, hH, a⟩ := s.get hG
  subst e
  refine ⟨_, hv, .inl ⟨rfl, vs, .inl (.inl hH)⟩, ?_⟩
  refine h σ W1 l s _ fun x W2 l2 ⟨b, us, ex, hb, ha⟩ => ?_
  subst ex
  have f2 : W2.F p = none := l2.new _ _ hH f
  have hH2 := l2.h _ _ hH
  refine ⟨p, b, vs, us, rfl, rfl, hH2, W2.sub _ _ hb, by rw [a.len, ha.len]; exact hl, ?_⟩
  have l3 : Le W (W2.own p (.lst (vs ++ us)) f2 noTup_lst) := (l.trans l2).chg n f2 noTup_lst
  exact q σ (W2.own p (.lst (vs ++ us)) f2 noTup_lst) l3 l2.f (Sat.regrow (W1 := W2) rfl hv hp (s.mono l2) ⟨p, _, rfl, n, f2, upd_same, (a.mono l2.f).app ha⟩ (List.getElem?_eq_some_iff.mp hv).1)
/-- found[j] = e -/
theorem nx_setItem {i j : Nat} {ds : List Dsc} {tj : TE} (hG : G[i]? = some (some (.ow (ownL W ds)))) (hp : plainE (G.set i none) = true) (h : Ev te G W d) (hj : Ev tj G W (dI (j : Int))) (hl : j < ds.length) :
    Nx (tAsg te (gSub (tVar i) tj rSetL)) G W (G.set i (some (.ow (ownL W (ds.set j d))))) := fun σ W1 l s D q => by
  refine h σ W1 l s _ fun x W2 l2 o => ?_
  obtain ⟨v, hv, p, vs, e, n, f, hH, a⟩ := (s.mono l2).get hG
  subst e
  refine ⟨_, hv, ?_⟩
  refine hj σ W2 (l.trans l2) (s.mono l2) _ fun y W3 l3 ey => ?_
  have f3 : W3.F p = none := l3.new _ _ hH f
  have hj' : ixN vs.length (j : Int) = some j := by
    unfold ixN
    rw [if_pos (by omega), if_pos (by rw [a.len]; omega), Int.toNat_natCast]
  refine ⟨p, vs, _, j, rfl, ey, l3.h _ _ hH, hj', ?_⟩
  have l4 : Le W (W3.own p (.lst (vs.set j x)) f3 noTup_lst) := ((l.trans l2).trans l3).chg n f3 noTup_lst
  exact q σ (W3.own p (.lst (vs.set j x)) f3 noTup_lst) l4 (l2.trans l3).f (Sat.regrow (W1 := W3) rfl hv hp ((s.mono l2).mono l3) ⟨p, _, rfl, n, f3, upd_same, AllD.set (d.mono l3.f o) j (a.mono l3.f)⟩ (List.getElem?_eq_some_iff.mp hv).1)

/-! ### what is walked -/
/-- J walks the things ds, wherever the frozen part has grown -/
def Walk (J : It) (F : Hp) (ds : List Dsc) : Prop := ∀ W3 : Wd, Same F W3.F → (∀ (i : Nat), i < ds.length → J.go i W3.H ∧ ∀ x H', J.yld i W3.H x H' → ∃ W4, W4.H = H' ∧ Le W3 W4 ∧ ∃ d, ds[i]? = some d ∧ d.ok x W4.F) ∧ J.stop ds.length W3.H
def EvI (wi : TI) (G : En) (W : Wd) (ds : List Dsc) : Prop := ∀ σ W1, Le W W1 → Sat G σ W1 → ∀ R : It → Hp → Prop, (∀ J W2, Le W1 W2 → Walk J W2.F ds → R J W2.H) → wi σ W1.H R
theorem walk_list {F : Hp} {a : Addr} {vs : List V} {ds : List Dsc} (h : F a = some (.lst vs)) (hd : AllD ds vs F) : Walk (Itl K a) F ds := fun W3 e => by
  have hs : SqL K W3.H a vs := sqL_of (e _ _ h)
  refine ⟨fun i hi => ⟨?_, fun x H' ⟨eH, y⟩ => ?_⟩, ⟨vs, hs, by rw [hd.len]; exact Nat.le_refl _⟩⟩
  · obtain ⟨v, h1, _⟩ := hd.get (i := i) (d := ds[i]) (by simp [hi])
    exact ⟨vs, v, hs, h1⟩
  · subst eH
    obtain ⟨v, h1, h2⟩ := hd.get (i := i) (d := ds[i]) (by simp [hi])
    have hx := y vs hs
    rw [h1] at hx
    obtain rfl := Option.some.inj hx
    exact ⟨W3, rfl, Le.refl _, ds[i], by simp [hi], (ds[i]).mono e h2⟩
theorem ei_list {ds : List Dsc} (h : Ev te G W (dL ds)) : EvI (iList K te) G W ds := fun σ W1 l s R q => h σ W1 l s _ fun v W2 l2 ⟨p, vs, e, hp, hv⟩ => ⟨p, e, ⟨vs, sqL_of hp⟩, q _ W2 l2 (walk_list hp hv)⟩
theorem walk_tup {F : Hp} {a : Addr} {vs : List V} {ds : List Dsc} (h : SqT K F a vs) (hd : AllD ds vs F) : Walk (Itt K a) F ds := fun W3 e => by
  have hs : SqT K W3.H a vs := SqT.mono W3.sub (SqT.mono e h)
  refine ⟨fun i hi => ⟨?_, fun x H' ⟨eH, y⟩ => ?_⟩, ⟨vs, hs, by rw [hd.len]; exact Nat.le_refl _⟩⟩
  · obtain ⟨v, h1, _⟩ := hd.get (i := i) (d := ds[i]) (by simp [hi])
    exact ⟨vs, v, hs, h1⟩
  · subst eH
    obtain ⟨v, h1, h2⟩ := hd.get (i := i) (d := ds[i]) (by simp [hi])
    have hx := y vs hs
    rw [h1] at hx
    obtain rfl := Option.some.inj hx
    exact ⟨W3, rfl, Le.refl _, ds[i], by simp [hi], (ds[i]).mono e h2⟩
theorem ei_tup {ds : List Dsc} (h : Ev te G W (dT K ds)) : EvI (iTup K te) G W ds := fun σ W1 l s R q => h σ W1 l s _ fun v W2 l2 ⟨p, vs, e, hp, hv⟩ => ⟨p, e, ⟨vs, SqT.mono W2.sub hp⟩, q _ W2 l2 (walk_tup hp hv)⟩
theorem walk_range {F : Hp} {lo : Int} {n : Nat} : Walk (Itr lo n) F ((List.range n).map fun (i : Nat) => dI (lo + i)) := fun W3 e => by
  rw [List.length_map, List.length_range]
  refine ⟨fun i hi => ⟨hi, fun x H' ⟨eH, ex⟩ => ?_⟩, Nat.le_refl _⟩
  subst eH
  exact ⟨W3, rfl, Le.refl _, dI (lo + i), by rw [List.getElem?_map, List.getElem?_range hi] <;> rfl, ex⟩
theorem ei_range1 {n : Nat} (h : Ev te G W (dI (n : Int))) (hn : n < 2 ^ 62) : EvI (iRng1 (tCons te tNil)) G W ((List.range n).map fun (i : Nat) => dI (0 + i)) := fun σ W1 l s R q => h σ W1 l s _ fun v W2 l2 e => by
  refine ⟨(n : Int), by rw [show v = _ from e], by omega, by omega, ?_⟩
  rw [Int.toNat_natCast]
  exact q _ W2 l2 walk_range
theorem ei_range2 {i j : Nat} {tb : TE} (h : Ev te G W (dI (i : Int))) (hb : Ev tb G W (dI (j : Int))) (hi : i < 2 ^ 62) (hj : j < 2 ^ 62) : EvI (iRng2 (tCons te (tCons tb tNil))) G W ((List.range (j - i)).map fun (k : Nat) => dI ((i : Int) + k)) := fun σ W1 l s R q =>
  h σ W1 l s _ fun v W2 l2 e => hb σ W2 (l.trans l2) (s.mono l2) _ fun u W3 l3 e3 => by
  refine ⟨(i : Int), (j : Int), by rw [show v = _ from e, show u = _ from e3], ⟨by omega, by omega, by omega, by omega⟩, ?_⟩
  rw [show ((j : Int) - (i : Int)).toNat = j - i by omega]
  exact q _ W3 (l2.trans l3) walk_range
theorem walk_str {F : Hp} {x : Str} : Walk (Its x) F (x.cps.toList.map fun c => dS ⟨#[c]⟩) := fun W3 e => by
  rw [List.length_map, Array.length_toList]
  refine ⟨fun i hi => ⟨hi, fun v H' ⟨eH, c, hc, ev⟩ => ?_⟩, Nat.le_refl _⟩
  subst eH
  exact ⟨W3, rfl, Le.refl _, dS ⟨#[c]⟩, by rw [List.getElem?_map, Array.getElem?_toList, hc]; rfl, ev⟩
theorem ei_str {x : Str} (h : Ev te G W (dS x)) : EvI (iStr te) G W (x.cps.toList.map fun c => dS ⟨#[c]⟩) := fun σ W1 l s R q => h σ W1 l s _ fun v W2 l2 e => ⟨x, e, q _ W2 l2 walk_str⟩
end
end Fd

namespace Fd
open PySem PySem.Spec PyProof.Rows L2
section
variable {G G1 G2 : En} {W : Wd} {d : Dsc} {te tb : TE} {t u : TS} {b : Bool} {K : PySem.W.Frag} {R : V → Wd → Prop} {c : TT}
/-! enumerate, zip -/
def enumD (K : PySem.W.Frag) (ds : List Dsc) : List Dsc := (List.range ds.length).map fun (i : Nat) => dT K [dI (i : Int), (ds[i]?).getD (dV .non)]
theorem walk_enum {F : Hp} {a : Addr} {vs : List V} {ds : List Dsc} (h : F a = some (.lst vs)) (hd : AllD ds vs F) : Walk (Ite K a) F (enumD K ds) := fun W3 e => by
  have hs : SqL K W3.H a vs := sqL_of (e _ _ h)
  have hl : (enumD K ds).length = ds.length := by unfold enumD; rw [List.length_map, List.length_range]
  rw [hl]
  refine ⟨fun i hi => ?_, ⟨vs, hs, by rw [hd.len]; exact Nat.le_refl _⟩⟩
  have hi : i < ds.length := hi
  obtain ⟨v, h1, h2⟩ := hd.get (i := i) (d := ds[i]) (by simp [hi])
  refine ⟨⟨vs, v, hs, h1⟩, fun x H' ⟨T, y, ex, hT, eH, hy⟩ => ?_⟩
  subst ex eH
  have e2 := hy vs hs
  rw [h1] at e2
  obtain rfl := Option.some.inj e2
  refine ⟨W3.add T _, rfl, Le.add hT, dT K [dI (i : Int), (ds[i]?).getD (dV .non)], by unfold enumD; rw [List.getElem?_map, List.getElem?_range hi] <;> rfl, T, _, rfl, .inl (.inl upd_same), rfl, ?_, trivial⟩
  rw [List.getElem?_eq_getElem hi]
  exact (ds[i]).mono (Le.add (o := .tup [.int (i : Nat), v]) hT).f ((ds[i]).mono e h2)
theorem ei_enum {ds : List Dsc} (h : Ev te G W (dL ds)) : EvI (iEnum K (tCons te tNil)) G W (enumD K ds) := fun σ W1 l s R q => h σ W1 l s _ fun v W2 l2 ⟨p, vs, e, hp, hv⟩ => ⟨p, vs, by rw [e], sqL_of hp, q _ W2 l2 (walk_enum hp hv)⟩
def zipD (K : PySem.W.Frag) (ds es : List Dsc) : List Dsc := (ds.zip es).map fun p => dT K [p.1, p.2]
theorem walk_zip {F : Hp} {a b : Addr} {vs us : List V} {ds es : List Dsc} (h : F a = some (.lst vs)) (hd : AllD ds vs F) (h' : F b = some (.lst us)) (he : AllD es us F) (hl : ds.length = es.length) : Walk (Itz K a b) F (zipD K ds es) := fun W3 e => by
  have hs : SqL K W3.H a vs := sqL_of (e _ _ h)
  have hs' : SqL K W3.H b us := sqL_of (e _ _ h')
  have hz : (zipD K ds es).length = ds.length := by unfold zipD; rw [List.length_map, List.length_zip, ← hl, Nat.min_self]
  rw [hz]
  refine ⟨fun i hi => ?_, ⟨vs, us, hs, hs', .inl (by rw [hd.len]; exact Nat.le_refl _)⟩⟩
  have hi : i < ds.length := hi
  have hi' : i < es.length := by omega
  obtain ⟨v, h1, h2⟩ := hd.get (i := i) (d := ds[i]) (by simp [hi])
  obtain ⟨v', h1', h2'⟩ := he.get (i := i) (d := es[i]) (by simp [hi'])
  refine ⟨⟨vs, us, v, v', hs, hs', h1, h1'⟩, fun x H' ⟨T, y, y', ex, hT, eH, hy, hy'⟩ => ?_⟩
  subst ex eH
  have e2 := hy vs hs
  rw [h1] at e2
  obtain rfl := Option.some.inj e2
  have e3 := hy' us hs'
  rw [h1'] at e3
  obtain rfl := Option.some.inj e3
  refine ⟨W3.add T _, rfl, Le.add hT, dT K [ds[i], es[i]], ?_, T, _, rfl, .inl (.inl upd_same), ?_, ?_, trivial⟩
  · unfold zipD
    rw [List.getElem?_map, List.getElem?_eq_getElem (by rw [List.length_zip]; omega), List.getElem_zip]
    rfl
  · exact (ds[i]).mono (Le.add (o := .tup [v, v']) hT).f ((ds[i]).mono e h2)
  · exact (es[i]).mono (Le.add (o := .tup [v, v']) hT).f ((es[i]).mono e h2')
theorem ei_zip {ds es : List Dsc} {te2 : TE} (h : Ev te G W (dL ds)) (h2 : Ev te2 G W (dL es)) (hl : ds.length = es.length) : EvI (iZip K (tCons te (tCons te2 tNil))) G W (zipD K ds es) := fun σ W1 l s R q =>
  h σ W1 l s _ fun v W2 l2 ⟨p, vs, e, hp, hv⟩ => h2 σ W2 (l.trans l2) (s.mono l2) _ fun u W3 l3 ⟨p', us, e', hp', hu⟩ =>
    ⟨p, p', vs, us, by rw [e, e'], sqL_of (l3.f _ _ hp), sqL_of hp', q _ W3 (l2.trans l3) (walk_zip (l3.f _ _ hp) (hv.mono l3.f) hp' hu hl)⟩

/-! ### targets -/
/-- the target g takes a thing d: the environment is changed by f, the slots js alone -/
def Tg (g : TG) (d : Dsc) (f : En → En) (js : List Nat) : Prop := ∀ σ G W v (Q : L2.St → Hp → Prop), Sat G σ W → d.ok v W.F → (∀ σ', Sat (f G) σ' W → (∀ vs : List Nat, (∀ j ∈ js, j ∈ vs) → L2.wipe σ' vs = L2.wipe σ vs) → Q σ' W.H) → g v σ W.H Q
theorem wipe_set {σ : L2.St} {j : Nat} {x : Option V} : ∀ {vs : List Nat}, j ∈ vs → L2.wipe (σ.set j x) vs = L2.wipe σ vs
  | [], h => by cases h
  | v :: vs, h => by
    show (L2.wipe (σ.set j x) vs).set v none = (L2.wipe σ vs).set v none
    by_cases hj : j ∈ vs
    · rw [wipe_set hj]
    · have e : j = v := by
        rcases List.mem_cons.mp h with e | e
        · exact e
        · exact absurd e hj
      subst e
      have key : ∀ {us : List Nat}, j ∉ us → L2.wipe (σ.set j x) us = (L2.wipe σ us).set j x := by
        intro us
        induction us with
        | nil => intro _; rfl
        | cons u us ih =>
          intro hn
          have h1 : u ≠ j := fun e => hn (by rw [e]; exact List.mem_cons_self)
          show (L2.wipe (σ.set j x) us).set u none = ((L2.wipe σ us).set u none).set j x
          rw [ih (fun m => hn (List.mem_cons_of_mem _ m)), List.set_comm _ _ h1]
      rw [key hj, List.set_set]
theorem tg_name {i : Nat} {d : Dsc} : Tg (gName i) d (fun G => G.set i (some (.pl d))) [i] := fun σ G W v Q s o k => k _ (s.set (t := .pl d) o i) fun vs h => wipe_set (h i (List.mem_singleton.mpr rfl))
/-- several targets -/
def Tgs (g : TGs) (ds : List Dsc) (f : En → En) (js : List Nat) : Prop := ∀ σ G W vs (Q : L2.St → Hp → Prop), Sat G σ W → AllD ds vs W.F → (∀ σ', Sat (f G) σ' W → (∀ us : List Nat, (∀ j ∈ js, j ∈ us) → L2.wipe σ' us = L2.wipe σ us) → Q σ' W.H) → g vs σ W.H Q
theorem tgs_nil : Tgs gNil [] id [] := fun σ G W vs Q s a k => by
  match vs, a with
  | [], _ => exact ⟨rfl, k σ s fun _ _ => rfl⟩
theorem tgs_cons {g : TG} {gs : TGs} {ds : List Dsc} {f f' : En → En} {js ks : List Nat} (h : Tg g d f js) (hs : Tgs gs ds f' ks) : Tgs (gCons g gs) (d :: ds) (fun G => f' (f G)) (js ++ ks) := fun σ G W vs Q s a k => by
  match vs, a with
  | v :: r, a =>
    refine ⟨v, r, rfl, h σ G W v _ s a.1 fun σ' s' w' => hs σ' _ W r _ s' a.2 fun σ2 s2 w2 => k σ2 s2 fun us hm => ?_⟩
    rw [w2 us fun j hj => hm j (List.mem_append_right _ hj), w' us fun j hj => hm j (List.mem_append_left _ hj)]
theorem tg_tup {n : Nat} {gs : TGs} {ds : List Dsc} {f : En → En} {js : List Nat} (h : Tgs gs ds f js) (hn : ds.length = n := by rfl) : Tg (gTup K n gs) (dT K ds) f js := fun σ G W v Q s ⟨p, vs, e, hp, a⟩ k =>
  ⟨p, vs, e, SqT.mono W.sub hp, by rw [a.len]; exact hn, h σ G W vs Q s a k⟩
theorem nx_asg {g : TG} {f : En → En} {js : List Nat} (h : Ev te G W d) (hg : Tg g d f js) : Nx (tAsg te g) G W (f G) := fun σ W1 l s D q => h σ W1 l s _ fun v W2 l2 o => hg σ G W2 v _ (s.mono l2) o fun σ' s' _ => q σ' W2 (l.trans l2) l2.f s'

/-! ### loops -/
/-- for: the environment ahead of each turn; every turn goes on -/
theorem nx_for {wi : TI} {g : TG} {tb : TS} (ds : List Dsc) (E : Nat → En) (f : Nat → En → En) (js : List Nat) (hi : EvI wi (E 0) W ds) (hg : ∀ (i : Nat) d, ds[i]? = some d → Tg g d (f i) js) (hs : ∀ (i : Nat), i < ds.length → Nx tb (f i (E i)) W (E (i + 1))) :
    Nx (tFor wi g tb) (E 0) W (E ds.length) := fun σ W1 l s D q => by
  refine hi σ W1 l s _ fun J W2 l2 wk => ?_
  refine ⟨fun i m σ' H => m = ds.length - i ∧ i ≤ ds.length ∧ ∃ W3 : Wd, W3.H = H ∧ Same W2.F W3.F ∧ Le W W3 ∧ Sat (E i) σ' W3, ⟨_, rfl, Nat.zero_le _, W2, rfl, fun _ _ e => e, l.trans l2, s.mono l2⟩, ?_⟩
  rintro i m σ' H ⟨rfl, hle, W3, rfl, sm, l3, s3⟩
  obtain ⟨stp, fin⟩ := wk W3 sm
  by_cases hlt : i < ds.length
  · obtain ⟨go, y⟩ := stp i hlt
    refine .inr ⟨go, fun σ2 H2 => ∃ W5 : Wd, W5.H = H2 ∧ Same W2.F W5.F ∧ Le W W5 ∧ Sat (E (i + 1)) σ2 W5, fun σ2 H2 ⟨W5, e5, sm5, l5, s5⟩ => ⟨ds.length - (i + 1), by omega, rfl, hlt, W5, e5, sm5, l5, s5⟩, fun x H' hy => ?_⟩
    obtain ⟨W4, eH, l4, d, hd, od⟩ := y x H' hy
    subst eH
    refine hg i d hd σ' _ W4 x _ (s3.mono l4) od fun σ4 s4 _ => ?_
    have l04 : Le W W4 := l3.trans l4
    exact hs i hlt σ4 W4 l04 s4 { D with nx := fun σ2 H2 => ∃ W5 : Wd, W5.H = H2 ∧ Same W2.F W5.F ∧ Le W W5 ∧ Sat (E (i + 1)) σ2 W5, ct := fun σ2 H2 => ∃ W5 : Wd, W5.H = H2 ∧ Same W2.F W5.F ∧ Le W W5 ∧ Sat (E (i + 1)) σ2 W5, bk := D.nx } fun σ5 W5 l5 f5 s5 => ⟨W5, rfl, (sm.trans l4.f).trans f5, l5, s5⟩
  · have e : i = ds.length := by omega
    subst e
    exact .inl ⟨fin, q σ' W3 l3 (l2.f.trans sm) s3⟩
/-- for, left by a return in turn m, or gone through -/
theorem rt_forR {wi : TI} {g : TG} {tb : TS} (ds : List Dsc) (E : Nat → En) (f : Nat → En → En) (js : List Nat) (m : Nat) (hm : m ≤ ds.length) (hi : EvI wi (E 0) W ds) (hg : ∀ (i : Nat) d, ds[i]? = some d → Tg g d (f i) js) (hs : ∀ (i : Nat), i < m → Nx tb (f i (E i)) W (E (i + 1)))
    (hr : m < ds.length → Rt tb (f m (E m)) W R) (ha : m = ds.length → Rt u (E m) W R) : Rt (tSeq (tFor wi g tb) u) (E 0) W R := fun σ W1 l s D q => by
  refine hi σ W1 l s _ fun J W2 l2 wk => ?_
  refine ⟨fun i n σ' H => n = ds.length - i ∧ i ≤ m ∧ ∃ W3 : Wd, W3.H = H ∧ Same W2.F W3.F ∧ Le W W3 ∧ Sat (E i) σ' W3, ⟨_, rfl, Nat.zero_le _, W2, rfl, fun _ _ e => e, l.trans l2, s.mono l2⟩, ?_⟩
  rintro i n σ' H ⟨rfl, hle, W3, rfl, sm, l3, s3⟩
  obtain ⟨stp, fin⟩ := wk W3 sm
  by_cases hlt : i < ds.length
  · obtain ⟨go, y⟩ := stp i hlt
    refine .inr ⟨go, fun σ2 H2 => i < m ∧ ∃ W5 : Wd, W5.H = H2 ∧ Same W2.F W5.F ∧ Le W W5 ∧ Sat (E (i + 1)) σ2 W5, fun σ2 H2 ⟨him, W5, e5, sm5, l5, s5⟩ => ⟨ds.length - (i + 1), by omega, rfl, him, W5, e5, sm5, l5, s5⟩, fun x H' hy => ?_⟩
    obtain ⟨W4, eH, l4, d, hd, od⟩ := y x H' hy
    subst eH
    refine hg i d hd σ' _ W4 x _ (s3.mono l4) od fun σ4 s4 _ => ?_
    have l04 : Le W W4 := l3.trans l4
    by_cases him : i < m
    · exact hs i him σ4 W4 l04 s4 { D with nx := fun σ2 H2 => i < m ∧ ∃ W5 : Wd, W5.H = H2 ∧ Same W2.F W5.F ∧ Le W W5 ∧ Sat (E (i + 1)) σ2 W5, ct := fun σ2 H2 => i < m ∧ ∃ W5 : Wd, W5.H = H2 ∧ Same W2.F W5.F ∧ Le W W5 ∧ Sat (E (i + 1)) σ2 W5, bk := u D } fun σ5 W5 l5 f5 s5 => ⟨him, W5, rfl, (sm.trans l4.f).trans f5, l5, s5⟩
    · have e : i = m := by omega
      subst e
      exact hr hlt σ4 W4 l04 s4 _ q
  · have e : i = ds.length := by omega
    subst e
    have e2 : m = ds.length := by omega
    subst e2
    exact .inl ⟨fin, ha rfl σ' W3 l3 s3 D q⟩

/-! ### list comprehensions -/
theorem wipe_wipe {σ : L2.St} {vs : List Nat} : ∀ {us : List Nat}, (∀ j ∈ us, j ∈ vs) → L2.wipe (L2.wipe σ us) vs = L2.wipe σ vs
  | [], _ => rfl
  | u :: us, h => by
    show L2.wipe ((L2.wipe σ us).set u none) vs = L2.wipe σ vs
    rw [wipe_set (h u List.mem_cons_self), wipe_wipe fun j hj => h j (List.mem_cons_of_mem _ hj)]
theorem take_succ_filter {α : Type} {p : α → Bool} {xs : List α} {i : Nat} {a : α} (h : xs[i]? = some a) : (xs.take (i + 1)).filter p = (xs.take i).filter p ++ (if p a = true then [a] else []) := by
  rw [List.take_add_one, h, List.filter_append]
  cases hp : p a <;> simp [hp]
theorem evO_lc {α : Type} {wi : TI} {g : TG} {tt : TT} {vs : List Nat} (xs : List α) (dx : α → Dsc) (p : α → Bool) (f : α → Dsc) (fE : α → En → En) (js : List Nat) (hi : EvI wi G W (xs.map dx)) (hg : ∀ a ∈ xs, Tg g (dx a) (fE a) js) (ht : ∀ a ∈ xs, EvT tt (fE a (wipeE G vs)) W (p a))
    (he : ∀ a ∈ xs, p a = true → Ev te (fE a (wipeE G vs)) W (f a)) (hjs : ∀ j ∈ js, j ∈ vs) (hn : xs.length < sizeLine) : EvO (tLc wi g tt te vs) G W ((xs.filter p).map f) := fun σ W1 l s Q q => by
  refine hi σ W1 l s _ fun J W2 l2 wk L hL => ?_
  have nL : W1.H L = none := l2.h.free hL
  refine ⟨fun i m H => m = xs.length - i ∧ i ≤ xs.length ∧ ∃ W3 : Wd, W3.H = H ∧ Le W1 W3 ∧ Same W2.F W3.F ∧ W3.F L = none ∧ ∃ acc, W3.H L = some (.lst acc) ∧ AllD (((xs.take i).filter p).map f) acc W3.F,
    ⟨_, rfl, Nat.zero_le _, W2.own L (.lst []) (W2.freeF hL) noTup_lst, rfl, l2.trans (Le.own hL noTup_lst), fun _ _ e => e, W2.freeF hL, [], upd_same, trivial⟩, ?_⟩
  rintro i m H ⟨rfl, hle, W3, rfl, l3, sm, nF, acc, hA, ad⟩
  obtain ⟨stp, fin⟩ := wk W3 sm
  rw [List.length_map] at stp fin
  by_cases hlt : i < xs.length
  · obtain ⟨go, y⟩ := stp i hlt
    have hxi : xs[i]? = some xs[i] := List.getElem?_eq_getElem hlt
    have hmem : xs[i] ∈ xs := List.getElem_mem hlt
    have hlen : acc.length < sizeLine := by
      rw [ad.len, List.length_map]
      exact Nat.lt_of_le_of_lt (Nat.le_trans (List.length_filter_le _ _) (by rw [List.length_take]; exact Nat.min_le_right _ _)) hn
    refine .inr ⟨go, fun H2 => ∃ W5 : Wd, W5.H = H2 ∧ Le W1 W5 ∧ Same W2.F W5.F ∧ W5.F L = none ∧ ∃ acc, W5.H L = some (.lst acc) ∧ AllD (((xs.take (i + 1)).filter p).map f) acc W5.F, fun H2 ⟨W5, r⟩ => ⟨xs.length - (i + 1), by omega, rfl, hlt, W5, r⟩, fun x H' hy => ?_⟩
    obtain ⟨W4, eH, l4, d, hd, od⟩ := y x H' hy
    subst eH
    rw [List.getElem?_map, hxi] at hd
    cases hd
    have l14 := l3.trans l4
    refine hg _ hmem (L2.wipe σ vs) (wipeE G vs) W4 x _ ((s.mono l14).wipe vs) od fun σ4 s4 w4 => ⟨?_, ?_⟩
    · rw [w4 vs hjs, wipe_wipe fun _ h => h]
    · refine ht _ hmem σ4 W4 (l.trans l14) s4 _ fun W5 l5 => ?_
      have l45 := l4.trans l5
      have nF5 : W5.F L = none := l45.new _ _ hA nF
      have hA5 := l45.h _ _ hA
      cases hp : p xs[i] with
      | true =>
        show (if true = true then _ else _)
        rw [if_pos rfl]
        refine he _ hmem hp σ4 W5 (l.trans (l14.trans l5)) (s4.mono l5) _ fun v W6 l6 o6 => ?_
        have l46 := l45.trans l6
        have nF6 : W6.F L = none := l46.new _ _ hA nF
        refine ⟨acc, l46.h _ _ hA, hlen, W6.own L (.lst (acc ++ [v])) nF6 noTup_lst, rfl, ((l14.trans l5).trans l6).chg nL nF6 noTup_lst, sm.trans l46.f, nF6, _, upd_same, ?_⟩
        rw [take_succ_filter hxi, hp, if_pos rfl, List.map_append]
        exact (ad.mono l46.f).app ⟨o6, trivial⟩
      | false =>
        show (if false = true then _ else _)
        rw [if_neg Bool.false_ne_true]
        refine ⟨W5, rfl, l14.trans l5, sm.trans l45.f, nF5, acc, hA5, ?_⟩
        rw [take_succ_filter hxi, hp, if_neg Bool.false_ne_true, List.append_nil]
        exact ad.mono l45.f
  · have e : i = xs.length := by omega
    subst e
    rw [List.take_length] at ad
    exact .inl ⟨fin, q L acc W3 l3 nL nF hA ad⟩
/-- without a test -/
theorem evO_lcm {α : Type} {wi : TI} {g : TG} {vs : List Nat} (xs : List α) (dx : α → Dsc) (f : α → Dsc) (fE : α → En → En) (js : List Nat) (hi : EvI wi G W (xs.map dx)) (hg : ∀ a ∈ xs, Tg g (dx a) (fE a) js)
    (he : ∀ a ∈ xs, Ev te (fE a (wipeE G vs)) W (f a)) (hjs : ∀ j ∈ js, j ∈ vs) (hn : xs.length < sizeLine) : EvO (tLc wi g tYes te vs) G W (xs.map f) := by
  have h := evO_lc (te := te) (tt := tYes) xs dx (fun _ => true) f fE js hi hg (fun _ _ σ W1 l s Q q => q W1 (Le.refl _)) (fun a ha _ => he a ha) hjs hn
  rw [List.filter_eq_self.mpr (fun _ _ => rfl)] at h
  exact h

/-! ### a def keeps its promise -/
def envOf (N : List Str) (ds : List Dsc) : En := ds.map (fun d => some (.pl d)) ++ List.replicate (N.length - ds.length) none
theorem sat_env {n : Nat} {W : Wd} : ∀ {ds : List Dsc} {vs : List V}, AllD ds vs W.F → Sat (ds.map (fun d => some (.pl d)) ++ List.replicate n none) (vs.map some ++ List.replicate n none) W
  | [], [], _ => by
    have h : ∀ n : Nat, Sat (List.replicate n none) (List.replicate n none) W := by
      intro n
      induction n with
      | zero => trivial
      | succ n ih => exact ih
    exact h n
  | d :: ds, v :: vs, h => ⟨h.1, sat_env h.2⟩
  | [], _ :: _, h => h.elim
  | _ :: _, [], h => h.elim
theorem sat_start {N : List Str} {ds : List Dsc} {vs : List V} {W : Wd} (h : AllD ds vs W.F) : Sat (envOf N ds) (L2.start N vs) W := by
  unfold envOf L2.start
  rw [h.len]
  exact sat_env h
theorem reads_of {α : Type} {pre : α → Prop} {dom : α → List Dsc} {cod : α → Dsc} {N : List Str} {t : TS} (h : ∀ a, pre a → ∀ W, Rt t (envOf N (dom a)) W (rD (cod a))) {vs : List V} {H : Hp} {Q : VK} {E : XK} (k : spOf pre dom cod vs H Q E) :
    t { nx := fun _ H' => Q .non H', rt := Q } (L2.start N vs) H := by
  obtain ⟨a, W, rfl, hp, ad, q⟩ := k
  exact h a hp W _ W (Le.refl _) (sat_start ad) _ fun v W2 l o => q v W2 l o
theorem reads_own {α : Type} {pre : α → Prop} {dom cod : α → List Dsc} {N : List Str} {t : TS} (h : ∀ a, pre a → ∀ W, Rt t (envOf N (dom a)) W (rO W (cod a))) {vs : List V} {H : Hp} {Q : VK} {E : XK} (k : spOwn pre dom cod vs H Q E) :
    t { nx := fun _ H' => Q .non H', rt := Q } (L2.start N vs) H := by
  obtain ⟨a, W, rfl, hp, ad, q⟩ := k
  refine h a hp W _ W (Le.refl _) (sat_start ad) _ fun v W2 l ⟨p, us, e, n, f, hH, a2⟩ => ?_
  subst e
  exact q p us W2 l n f hH a2
theorem len_of {α : Type} {pre : α → Prop} {dom : α → List Dsc} {cod : α → Dsc} {n : Nat} (hn : ∀ a, (dom a).length = n) (vs : List V) (H : Hp) (Q : VK) (E : XK) (k : spOf pre dom cod vs H Q E) : vs.length = n := by
  obtain ⟨a, W, _, _, ad, _⟩ := k
  rw [ad.len, hn a]
theorem len_own {α : Type} {pre : α → Prop} {dom cod : α → List Dsc} {n : Nat} (hn : ∀ a, (dom a).length = n) (vs : List V) (H : Hp) (Q : VK) (E : XK) (k : spOwn pre dom cod vs H Q E) : vs.length = n := by
  obtain ⟨a, W, _, _, ad, _⟩ := k
  rw [ad.len, hn a]
end
end Fd

namespace Fd
open PySem PySem.Spec PyProof.Rows L2

/-! ### where a body stands -/
/-- what the top has left, by names (fa, fn, exB: the head's) -/
structure Gb (fa : List He.Fa) (K : PySem.W.Frag) (mg : Str → Option Value) : Prop where
  fact : ∀ f ∈ fa, f.ok K = true
  here : ∃ h : Heap, K.In h ∧ h.Ns mainGlobals mg
theorem Gb.glo {fa : List He.Fa} {K : PySem.W.Frag} {mg : Str → Option Value} (g : Gb fa K mg) {x : Str} (h : He.Fa.glo x ∈ fa) : mg x = some (.ref (He.ga K x)) := by
  obtain ⟨hp, k, n⟩ := g.here
  exact He.glo_ok k n (g.fact _ h)
theorem Gb.free {fa : List He.Fa} {K : PySem.W.Frag} {mg : Str → Option Value} (g : Gb fa K mg) {x : Str} (h : He.Fa.free x ∈ fa) : mg x = none := by
  obtain ⟨hp, k, n⟩ := g.here
  exact He.free_ok k n (g.fact _ h)
theorem Gb.int {fa : List He.Fa} {K : PySem.W.Frag} {mg : Str → Option Value} (g : Gb fa K mg) {x : Str} {i : Int} (h : He.Fa.int x i ∈ fa) : ∃ u, mg x = some u ∧ RelV (.int i) u := by
  obtain ⟨hp, k, n⟩ := g.here
  obtain ⟨t, e⟩ := He.int_ok k n (g.fact _ h)
  exact ⟨_, e, t, rfl⟩
theorem Gb.str {fa : List He.Fa} {K : PySem.W.Frag} {mg : Str → Option Value} (g : Gb fa K mg) {x z : Str} (h : He.Fa.str x z ∈ fa) : ∃ u, mg x = some u ∧ RelV (.str z) u := by
  obtain ⟨hp, k, n⟩ := g.here
  obtain ⟨t, e⟩ := He.str_ok k n (g.fact _ h)
  exact ⟨_, e, t, rfl⟩
structure On (fa : List He.Fa) (X : Cx) (N : List Str) (sc : Scope) : Prop where
  hN : X.N = N
  hs : X.env.scope = sc
  calm : X.calm = true
  nd : X.N.Nodup
  nev : PassesOwn (model X.prog X.w) X.A X.env X.xe
  gb : Gb fa X.K X.mg
  hu : X.A.units + 64 < cLine
/-- the names of a scope: the slots is are seen, the slots ls are stored, the names gs are global -/
def nmB (N : List Str) (sc : Scope) (is ls : List Nat) (gs : List Str) : Bool :=
  (is.all fun i => match N[i]? with
    | some x => (decide (sc.names.lookup x = some .local) || (decide (sc.names.lookup x = some .cell) || decide (sc.names.lookup x = some .free))) && (!(x == ("__debug__" : Str)) && !(x == ("__classdict__" : Str)))
    | none => false) &&
  ((ls.all fun i => match N[i]? with
    | some x => decide (sc.names.lookup x = some .local) || decide (sc.names.lookup x = some .cell)
    | none => false) && gs.all fun x => decide (sc.names.lookup x = some .globalImplicit) && (!(x == ("__debug__" : Str)) && !(x == ("__name__" : Str))))
section
variable {fa : List He.Fa} {X : Cx} {N : List Str} {sc : Scope} {is ls : List Nat} {gs : List Str} {x : Str} {pos p : Pos} {e : Expr} {es : List Expr}
theorem nm_see (h : nmB N sc is ls gs = true) {i : Nat} (hi : i ∈ is) (hN : N[i]? = some x) : Vis sc x ∧ (x == ("__debug__" : Str)) = false ∧ (x == ("__classdict__" : Str)) = false := by
  unfold nmB at h
  rw [Bool.and_eq_true, Bool.and_eq_true] at h
  have q := List.all_eq_true.mp h.1 i hi
  rw [hN] at q
  simp only [Bool.and_eq_true, Bool.or_eq_true, decide_eq_true_eq, Bool.not_eq_true'] at q
  exact ⟨q.1, q.2⟩
theorem nm_put (h : nmB N sc is ls gs = true) {i : Nat} (hi : i ∈ ls) (hN : N[i]? = some x) : Loc sc x := by
  unfold nmB at h
  rw [Bool.and_eq_true, Bool.and_eq_true] at h
  have q := List.all_eq_true.mp h.2.1 i hi
  rw [hN] at q
  simp only [Bool.or_eq_true, decide_eq_true_eq] at q
  exact q
theorem nm_glob (h : nmB N sc is ls gs = true) (hx : x ∈ gs) : sc.names.lookup x = some .globalImplicit ∧ (x == ("__debug__" : Str)) = false ∧ x ≠ "__name__" := by
  unfold nmB at h
  rw [Bool.and_eq_true, Bool.and_eq_true] at h
  have q := List.all_eq_true.mp h.2.2 x hx
  simp only [Bool.and_eq_true, decide_eq_true_eq, Bool.not_eq_true', beq_eq_false_iff_ne] at q
  exact ⟨q.1, beq_eq_false_iff_ne.mpr q.2.1, q.2.2⟩
theorem On.gl (o : On fa X N sc) (h : nmB N sc is ls gs = true) (hx : x ∈ gs) : Gl X x := by
  show X.env.scope.names.lookup x = _
  rw [o.hs]
  exact (nm_glob h hx).1
/-- a name in slot i -/
theorem av (o : On fa X N sc) (h : nmB N sc is ls gs = true) (i : Nat) (hi : i ∈ is) (hN : N[i]? = some x) : PE X (.Name x pos) (tVar i) := by
  obtain ⟨a, b, c⟩ := nm_see h hi hN
  exact pe_var (by rw [o.hN]; exact hN) (by rw [o.hs]; exact a) b c
/-- a name's slot is stored -/
theorem ag (o : On fa X N sc) (h : nmB N sc is ls gs = true) (hf : ∀ x, X.fn x = true) (i : Nat) (hi : i ∈ ls) (hN : N[i]? = some x) : PG X (.Name x pos) (gName i) :=
  pg_name o.nd (by rw [o.hN]; exact hN) (by rw [o.hs]; exact nm_put h hi hN) (.inl (hf x))
/-- a comprehension's own name -/
theorem agb (o : On fa X N sc) (i : Nat) (hN : N[i]? = some x) (hl : sc.names.lookup x = some .local) : PG X (.Name x pos) (gName i) :=
  pg_name o.nd (by rw [o.hN]; exact hN) (by rw [o.hs]; exact .inl hl) (.inr (by rw [o.hs]; exact hl))
theorem agi (o : On fa X N sc) (h : nmB N sc is ls gs = true) (hx : x ∈ gs) {i : Int} (hm : He.Fa.int x i ∈ fa) : PE X (.Name x pos) (tC (.int i)) := by
  obtain ⟨u, a, b⟩ := o.gb.int hm
  exact pe_glob (o.gl h hx) a b (nm_glob h hx).2.1
theorem ags (o : On fa X N sc) (h : nmB N sc is ls gs = true) (hx : x ∈ gs) {z : Str} (hm : He.Fa.str x z ∈ fa) : PE X (.Name x pos) (tC (.str z)) := by
  obtain ⟨u, a, b⟩ := o.gb.str hm
  exact pe_glob (o.gl h hx) a b (nm_glob h hx).2.1
theorem agr (o : On fa X N sc) (h : nmB N sc is ls gs = true) (hx : x ∈ gs) (hm : He.Fa.glo x ∈ fa) : PE X (.Name x pos) (tC (.ref (He.ga X.K x))) :=
  pe_glob (v := .ref (He.ga X.K x)) (o.gl h hx) (o.gb.glo hm) rfl (nm_glob h hx).2.1
/-- name = e -/
theorem aset (o : On fa X N sc) (h : nmB N sc is ls gs = true) (hf : ∀ x, X.fn x = true) (i : Nat) {te : TE} {pos' : Pos} (he : PE X e te) (hi : i ∈ ls) (hN : N[i]? = some x) (hs : swapsWith e (some (.Name x pos')) pos.line X.env = pure false := by rfl) :
    PS X (.Assign [.Name x pos'] e pos) (tAsg te (gName i)) := ps_set o.nd (by rw [o.hN]; exact hN) (by rw [o.hs]; exact nm_put h hi hN) he hs (.inl (hf x))
/-! calls -/
/-- a def of the top that may be called from X by its name -/
structure Cal (X : Cx) (x : Str) (sp : Sp) : Prop where
  ex : ∃ (f : Addr) (fd : FuncData) (ps : List Str) (k : Nat), FnOk X.prog X.w X.K X.mg X.base CX0 k f fd ps sp ∧ Room k X.A ∧ X.mg x = some (.ref f) ∧ PySem.W.keepIn X.K (.ref f) = true ∧ Binds X.K fd ps []
theorem acall (o : On fa X N sc) (h : nmB N sc is ls gs = true) {sp : Sp} {t : TA} (c : Cal X x sp) (ha : PA X (e :: es) t) (hx : x ∈ gs)
    (he : starEach (e :: es) X.env = (false, eval e X.env) :: starEach es X.env := by rfl) (hpl : (backTo pos (starEach es X.env)).any (·.1) = false := by rfl) : PE X (.Call (.Name x p) (e :: es) [] pos) (tCall sp [] E0 t) := by
  obtain ⟨f, fd, ps, k, F, hr, hm, kp, b⟩ := c.ex
  exact pe_call F hr (o.gl h hx) hm kp b .nil pass0 ha (nm_glob h hx).2.1 he hpl
/-- a class of the top that may be called -/
structure Mak (X : Cx) (x : Str) (C : Addr) (sp : Sp) : Prop where
  ex : ∃ (f : Addr) (fd : FuncData) (ps : List Str) (k : Nat), Mk X.K C f ∧ FnOk X.prog X.w X.K X.mg X.base CX0 k f fd ps sp ∧ Room (k + 1) X.A ∧ X.mg x = some (.ref C) ∧ Binds X.K fd ps []
theorem amake (o : On fa X N sc) (h : nmB N sc is ls gs = true) {sp : Sp} {t : TA} {C : Addr} (c : Mak X x C sp) (ha : PA X (e :: es) t) (hx : x ∈ gs)
    (he : starEach (e :: es) X.env = (false, eval e X.env) :: starEach es X.env := by rfl) (hpl : (backTo pos (starEach es X.env)).any (·.1) = false := by rfl) : PE X (.Call (.Name x p) (e :: es) [] pos) (tMake C sp [] E0 t) := by
  obtain ⟨f, fd, ps, k, M, F, hr, hm, b⟩ := c.ex
  exact pe_make M F hr (o.gl h hx) hm b .nil pass0 ha (nm_glob h hx).2.1 he hpl
theorem amake0 (o : On fa X N sc) (h : nmB N sc is ls gs = true) {sp : Sp} {C : Addr} (c : Mak X x C sp) (hx : x ∈ gs) : PE X (.Call (.Name x p) [] [] pos) (tMake C sp [] E0 tNil) := by
  obtain ⟨f, fd, ps, k, M, F, hr, hm, b⟩ := c.ex
  exact pe_make0 M F hr (o.gl h hx) hm b .nil pass0 (nm_glob h hx).2.1
theorem acb (o : On fa X N sc) (h : nmB N sc is ls gs = true) {id : String} {r : List V → Hp → VK → Prop} {t : TA} (hc : CallR X (.builtin id) r) (hv : bootBuiltins x = some (.builtin id)) (ha : PA X (e :: es) t) (hx : x ∈ gs) (hm : He.Fa.free x ∈ fa)
    (he : starEach (e :: es) X.env = (false, eval e X.env) :: starEach es X.env := by rfl) (hpl : (backTo pos (starEach es X.env)).any (·.1) = false := by rfl) : PE X (.Call (.Name x p) (e :: es) [] pos) (tCB r t) :=
  pe_callB hc (o.gl h hx) (o.gb.free hm) hv ha (nm_glob h hx).2.2 (nm_glob h hx).2.1 he hpl
theorem act (o : On fa X N sc) (h : nmB N sc is ls gs = true) {T : String} {r : List V → Hp → VK → Prop} {t : TA} (hc : CallR X (.type T) r) (hv : bootBuiltins x = some (.type T)) (ha : PA X (e :: es) t) (hx : x ∈ gs) (hm : He.Fa.free x ∈ fa)
    (he : starEach (e :: es) X.env = (false, eval e X.env) :: starEach es X.env := by rfl) (hpl : (backTo pos (starEach es X.env)).any (·.1) = false := by rfl) : PE X (.Call (.Name x p) (e :: es) [] pos) (tCB r t) :=
  pe_callTy hc (o.gl h hx) (o.gb.free hm) hv ha (nm_glob h hx).2.2 (nm_glob h hx).2.1 he hpl
/-! blocks -/
theorem On.blk (o : On fa X N sc) (s : Shared) (H : Hp) (scope : Scope) (C : Addr) (cl : List (Str × Addr)) (fp : List Addr) : On fa (X.blk s H scope (compEnvC scope cl C X.env) fp) N (relS scope sc) where
  hN := o.hN
  hs := by
    show relS scope X.env.scope = relS scope sc
    rw [o.hs]
  calm := o.calm
  nd := o.nd
  nev := PassesOwn.never
  gb := o.gb
  hu := o.hu
theorem On.ok (o : On fa X N sc) {scope : Scope} {own : List (Str × Nat)} (h : blkC N sc scope own = true) : BlkOk X.N X.env.scope scope own := by
  rw [o.hN, o.hs]
  exact blkOk_by h
end
end Fd

namespace Fd
open PySem PySem.Spec PyProof.Rows L2
/-! ### short names of operations (readings) -/
abbrev oAdd : R2 := rI0 fun i j => .int (i + j)
abbrev oSub : R2 := rI0 fun i j => .int (i - j)
abbrev oMul : R2 := rI CMul fun i j => .int (i * j)
abbrev oDiv : R2 := rI CDiv fun i j => .int (i / j)
abbrev oMod : R2 := rI (fun _ j => 0 < j) fun i j => .int (i % j)
abbrev oLt : R2 := rI0 fun i j => .bl (decide (i < j))
abbrev oLe : R2 := rI0 fun i j => .bl (decide (i ≤ j))
abbrev oGt : R2 := rI0 fun i j => .bl (decide (j < i))
abbrev oGe : R2 := rI0 fun i j => .bl (decide (j ≤ i))
abbrev oCatS : R2 := fun x y H Q => ∃ i j, x = .str i ∧ y = .str j ∧ i.length + j.length ≤ sizeLine ∧ Q (.str (i ++ j)) H
abbrev oIsN : R2 := fun x y H Q => y = .non ∧ Q (.bl (decide (x = .non))) H
abbrev cLen (K : PySem.W.Frag) : List V → Hp → VK → Prop := fun xs H Q => ∃ p ys, xs = [.ref p] ∧ (SqL K H p ys ∨ SqT K H p ys) ∧ Q (.int ys.length) H
abbrev cList (K : PySem.W.Frag) : List V → Hp → VK → Prop := fun xs H Q => ∃ p ys, xs = [.ref p] ∧ (SqL K H p ys ∨ SqT K H p ys) ∧ ∀ l, H l = none → Q (.ref l) (upd H l (.lst ys))
abbrev cOrd : List V → Hp → VK → Prop := fun xs H Q => ∃ x, xs = [.str x] ∧ x.length = 1 ∧ Q (.int (x.cps.getD 0 0 : Nat)) H
abbrev cInt : List V → Hp → VK → Prop := fun xs H Q => (∃ i, xs = [.int i] ∧ Q (.int i) H) ∨ ∃ k, xs = [.bl k] ∧ Q (.int (if k then 1 else 0)) H
abbrev cStrI : List V → Hp → VK → Prop := fun xs H Q => ∃ i, xs = [.int i] ∧ i.natAbs.log2 < 1920 ∧ Q (.str (toString i)) H
theorem gm {α : Type} {l : List α} (i : Nat) {x : α} (h : l[i]? = some x) : x ∈ l := List.mem_of_getElem? h

abbrev rJoin (K : PySem.W.Frag) : V → List V → Hp → VK → Prop := fun x xs H Q => ∃ a p, ∃ ys : List Str, x = .str a ∧ xs = [.ref p] ∧ (SqL K H p (ys.map V.str) ∨ SqT K H p (ys.map V.str)) ∧
  (ys.map (·.length)).sum + ys.length * a.length ≤ 16777216 ∧ Q (.str (Txt.join a ys)) H
abbrev tJd (ts : List TE) : TE := fun σ H Q => tJs ts Str.empty σ H fun out H1 => Q (.str out) H1
section
variable {fa : List He.Fa} {X : Cx} {N : List Str} {sc : Scope}
/-- name = [..] -/
theorem asetLc (o : On fa X N sc) (hk : sc.kind = .function) {i : Nat} {y : Str} {py : Pos} {elt tg iter : Expr} {ifs : List Expr} {scope : Scope} {own : List (Str × Nat)} {pos spos : Pos} {wi : TI} {g : TG} {tt : TT} {te : TE} (hy : N[i]? = some y) (hyl : sc.names.lookup y = some .local)
    (ha : (scope.names.any fun (n, k) => n == y && (k == .local || k == .cell)) = false) (hi : PI X tg iter wi) (ok : BlkOk X.N X.env.scope scope own)
    (hg : ∀ (s : Shared) (H : Hp) (C : Addr) (cl : List (Str × Addr)) (fp : List Addr), PG (X.blk s H scope (compEnvC scope cl C X.env) fp) tg g) (ht : ∀ (s : Shared) (H : Hp) (C : Addr) (cl : List (Str × Addr)) (fp : List Addr), PTs (X.blk s H scope (compEnvC scope cl C X.env) fp) ifs tt)
    (he : ∀ (s : Shared) (H : Hp) (C : Addr) (cl : List (Str × Addr)) (fp : List Addr), PE (X.blk s H scope (compEnvC scope cl C X.env) fp) elt te) (hl : (py.line == pos.line) = true := by rfl) (hs : ∀ x, foldedSetIterable iter X.env x = pure x := by intro _; rfl) :
    PS X (.Assign [.Name y py] (.ListComp elt [⟨tg, iter, ifs, 0⟩] scope pos) spos) (tAsg (tLc wi g tt te (own.map (·.2))) (gName i)) := by
  have h1 : X.env.scope.names.lookup y = some .local := by rw [o.hs]; exact hyl
  exact ps_setLc o.calm o.nd (by rw [o.hN]; exact hy) h1 (sw_true (by rw [o.hs]; exact hk) h1 hl ha) hi ok hg ht he hs
theorem env_as {E : Env} (h : E.scope = sc) : E = { E with scope := sc } := by
  cases E
  cases h
  rfl
theorem Cal.blk {x : Str} {sp : Sp} (c : Cal X x sp) {s : Shared} {H : Hp} {scope : Scope} {cenv : Env} {fp : List Addr} : Cal (X.blk s H scope cenv fp) x sp := ⟨c.ex⟩
theorem Mak.blk {x : Str} {A : Addr} {sp : Sp} (c : Mak X x A sp) {s : Shared} {H : Hp} {scope : Scope} {cenv : Env} {fp : List Addr} : Mak (X.blk s H scope cenv fp) x A sp := ⟨c.ex⟩
theorem apar (o : On fa X N sc) {i j : Nat} {x y : Str} {a b : Expr} {ta : TA} {px py pt pos : Pos} {kt k2 pt2} (hi : N[i]? = some x) (hj : N[j]? = some y) (hij : i ≠ j)
    (hx : sc.names.lookup x = some .local) (hy : sc.names.lookup y = some .local) (ha : PA X [a, b] ta)
    (hw : swappedStores [.Tuple [.Name x px, .Name y py] kt pt] (.Tuple [a, b] k2 pt2) { X.env with scope := sc } = pure (some [x, y]))
    (hs : swapsWithSole [.Tuple [.Name x px, .Name y py] kt pt] (.Tuple [a, b] k2 pt2) pos.line X.env = pure false := by rfl) :
    PS X (.Assign [.Tuple [.Name x px, .Name y py] kt pt] (.Tuple [a, b] k2 pt2) pos) (tPar i j ta) :=
  ps_par o.calm o.nd (by rw [o.hN]; exact hi) (by rw [o.hN]; exact hj) hij (by rw [o.hs]; exact hx) (by rw [o.hs]; exact hy) ha (by rw [env_as o.hs]; exact hw) hs
theorem apar3 (o : On fa X N sc) {i j l : Nat} {x y z : Str} {a b c : Expr} {ta : TA} {px py pz pt pos : Pos} {kt k2 pt2} (hi : N[i]? = some x) (hj : N[j]? = some y) (hl : N[l]? = some z) (hij : i ≠ j) (hil : i ≠ l) (hjl : j ≠ l)
    (hx : sc.names.lookup x = some .local) (hy : sc.names.lookup y = some .local) (hz : sc.names.lookup z = some .local) (ha : PA X [a, b, c] ta)
    (hw : swappedStores [.Tuple [.Name x px, .Name y py, .Name z pz] kt pt] (.Tuple [a, b, c] k2 pt2) { X.env with scope := sc } = pure (some [x, y, z]))
    (hs : swapsWithSole [.Tuple [.Name x px, .Name y py, .Name z pz] kt pt] (.Tuple [a, b, c] k2 pt2) pos.line X.env = pure false := by rfl) :
    PS X (.Assign [.Tuple [.Name x px, .Name y py, .Name z pz] kt pt] (.Tuple [a, b, c] k2 pt2) pos) (L2.tPar3 i j l ta) :=
  L2.ps_par3 o.calm o.nd (by rw [o.hN]; exact hi) (by rw [o.hN]; exact hj) (by rw [o.hN]; exact hl) hij hil hjl (by rw [o.hs]; exact hx) (by rw [o.hs]; exact hy) (by rw [o.hs]; exact hz) ha (by rw [env_as o.hs]; exact hw) hs
end
end Fd

namespace Fd
open PySem PySem.Spec PyProof.Rows L2
/-! ### instances -/
def putD (f : Str) (d : Dsc) : List (Str × Dsc) → List (Str × Dsc)
  | [] => [(f, d)]
  | (g, c) :: r => if g = f then (f, d) :: r else (g, c) :: putD f d r
theorem AllF.put {F : Hp} {f : Str} {d : Dsc} {v : V} (o : d.ok v F) : ∀ {ds : List (Str × Dsc)} {vs : List (Str × V)}, AllF ds vs F → AllF (putD f d ds) (putF f v vs) F
  | [], [], _ => ⟨⟨rfl, o⟩, trivial⟩
  | [], _ :: _, h => h.elim
  | _ :: _, [], h => h.elim
  | (g, c) :: ds, (k, u) :: vs, h => by
    obtain ⟨⟨h1, h2⟩, h3⟩ := h
    have h1 : g = k := h1
    subst h1
    unfold putD putF
    by_cases e : g = f
    · rw [if_pos e, if_pos e]
      exact ⟨⟨e.symm, o⟩, h3⟩
    · rw [if_neg e, if_neg e]
      exact ⟨⟨rfl, h2⟩, AllF.put o h3⟩
/-- the instance at x, newer than W0, that is still to change -/
def ownI (W0 : Wd) (C x : Addr) (fs : List (Str × Dsc)) : Own := ⟨fun v W => v = .ref x ∧ W0.H x = none ∧ W.F x = none ∧ ∃ dx vs, W.H x = some (.ins C dx vs) ∧ AllF fs vs W.F,
  fun l ⟨h1, h2, h3, dx, vs, h4, h5⟩ => ⟨h1, h2, l.new _ _ h4 h3, dx, vs, l.h _ _ h4, h5.mono l.f⟩⟩
section
variable {G G1 G2 : En} {W : Wd} {d d1 d2 : Dsc} {te ta tb : TE} {t u : TS} {b : Bool} {K : PySem.W.Frag} {R : V → Wd → Prop} {C x : Addr} {fs : List (Str × Dsc)} {f : Str}
theorem Sat.regrowI {σ : L2.St} {W1 W2 : Wd} {i : Nat} {o : Own} {v : V} (e : W1.F = W2.F) (hs : σ[i]? = some (some v)) (hp : plainE (G.set i none) = true) (s : Sat G σ W1) (q : o.ok v W2) : Sat (G.set i (some (.ow o))) σ W2 := by
  have s1 := (s.forget i).plain e hp
  have s2 := s1.set (t := .ow o) q i
  rw [List.set_set] at s2
  have e2 : σ.set i (some v) = σ := by
    obtain ⟨h1, h2⟩ := List.getElem?_eq_some_iff.mp hs
    rw [← h2]
    exact List.set_getElem_self h1
  rw [e2] at s2
  exact s2
/-- o.f = e, o the instance in slot i -/
theorem nx_fld {i : Nat} (hG : G[i]? = some (some (.ow (ownI W C x fs)))) (hp : plainE (G.set i none) = true) (h : Ev te G W d) (hc : Cls K C) (hn : NoAttr K C f) (hl : fs.length < 1000) :
    Nx (sFld K (tVar i) te f) G W (G.set i (some (.ow (ownI W C x (putD f d fs))))) := fun σ W1 l s D q => by
  refine h σ W1 l s _ fun v W2 l2 o => ?_
  obtain ⟨w, hw, e, n, f2, dx, vs, hH, a⟩ := (s.mono l2).get hG
  subst e
  refine ⟨_, hw, x, C, dx, vs, rfl, hH, hc, hn, by rw [a.len]; exact hl, ?_⟩
  exact q σ (W2.own x (.ins C dx (putF f v vs)) f2 noTup_ins) ((l.trans l2).chg n f2 noTup_ins) l2.f (Sat.regrowI (W1 := W2) rfl hw hp (s.mono l2) ⟨rfl, n, f2, dx, _, upd_same, a.put o⟩)
/-- o.f, o the instance in slot i -/
theorem ev_fldO {i : Nat} {W0 : Wd} (hG : G[i]? = some (some (.ow (ownI W0 C x fs)))) (hc : Cls K C) (hn : NoAttr K C f) (hl : fs.lookup f = some d) : Ev (tFld K (tVar i) f) G W d := fun σ W1 l s Q q => by
  obtain ⟨w, hw, e, n, f2, dx, vs, hH, a⟩ := s.get hG
  subst e
  obtain ⟨v, h1, h2⟩ := a.look hl
  exact ⟨_, hw, x, C, dx, vs, v, rfl, hH, hc, hn, h1, q v W1 (Le.refl _) h2⟩
/-- what an __init__ does: a the arguments, fs what the new instance then holds -/
def spMk {α : Type} (C : Addr) (pre : α → Prop) (dom : α → List Dsc) (fs : α → List (Str × Dsc)) : Sp := fun vs H Q _ => ∃ (a : α) (W0 W : Wd) (x dx : Addr) (us : List V), vs = .ref x :: us ∧ W.H = H ∧ Le W0 W ∧ W0.H x = none ∧ W.F x = none ∧ W.H x = some (.ins C dx []) ∧ pre a ∧
  AllD (dom a) us W.F ∧ ∀ U, Le W0 U → Same W.F U.F → (ownI W0 C x (fs a)).ok (.ref x) U → Q .non U.H
/-- a new instance, not frozen -/
def EvM (t : TE) (G : En) (W : Wd) (C : Addr) (fs : List (Str × Dsc)) : Prop := ∀ σ W1, Le W W1 → Sat G σ W1 → ∀ Q : VK, (∀ x U, Le W1 U → W1.H x = none → (ownI W1 C x fs).ok (.ref x) U → Q (.ref x) U.H) → t σ W1.H Q
theorem EvM.ev (h : EvM te G W C fs) : Ev te G W (dO C fs) := fun σ W1 l s Q q => h σ W1 l s Q fun x U lu n ⟨_, _, hF, dx, vs, hH, a⟩ =>
  q (.ref x) (U.frz x (.ins C dx vs) hH) (lu.frz n hF hH) ⟨x, dx, vs, rfl, upd_same, a.mono fun b u e => by
    show upd U.F x _ b = some u
    rw [upd_ne (ne_of_none e hF)]
    exact e⟩
theorem evM_make {α : Type} {pre : α → Prop} {dom : α → List Dsc} {fs : α → List (Str × Dsc)} {t : TA} (a : α) (hp : pre a) (h : EvA t G W (dom a)) : EvM (tMake C (spMk C pre dom fs) [] E0 t) G W C (fs a) := fun σ W1 l s Q q =>
  h σ W1 l s _ fun vs W2 l2 o => fun y dx hy hdx hne => by
    have n1 : (upd W2.H dx (HO.own y)) y = none := by rw [upd_ne (fun e => hne e.symm)]; exact hy
    have l3 := (Le.own (W := W2) (o := .own y) hdx noTup_own)
    have l4 := (Le.own (W := W2.own dx (.own y) (W2.freeF hdx) noTup_own) (p := y) (o := .ins C dx []) n1 noTup_ins)
    refine ⟨a, W2, (W2.own dx (.own y) (W2.freeF hdx) noTup_own).own y (.ins C dx []) (W2.freeF hy) noTup_ins, y, dx, vs ++ [], rfl, rfl, l3.trans l4, hy, W2.freeF hy, upd_same, hp, by rw [List.append_nil]; exact o, fun U lu _ ok => ⟨rfl, ?_⟩⟩
    obtain ⟨e, n, hF, dx', vs', hH, a'⟩ := ok
    exact q y U (l2.trans lu) (l2.h.free hy) ⟨e, l2.h.free hy, hF, dx', vs', hH, a'⟩
/-- the environment ahead of an __init__'s body -/
def envM (N : List Str) (W0 : Wd) (C x : Addr) (ds : List Dsc) : En := some (.ow (ownI W0 C x [])) :: (ds.map (fun d => some (.pl d)) ++ List.replicate (N.length - (ds.length + 1)) none)
theorem reads_mk {α : Type} {pre : α → Prop} {dom : α → List Dsc} {fs : α → List (Str × Dsc)} {N : List Str} {t : TS} (h : ∀ a, pre a → ∀ W0 x, ∃ G', Nx t (envM N W0 C x (dom a)) W0 (some (.ow (ownI W0 C x (fs a))) :: G')) {vs : List V} {H : Hp} {Q : VK} {E : XK} (k : spMk C pre dom fs vs H Q E) :
    t { nx := fun _ H' => Q .non H', rt := Q } (L2.start N vs) H := by
  obtain ⟨a, W0, W, x, dx, us, rfl, rfl, l, n, hF, hH, hp, ad, q⟩ := k
  obtain ⟨G', h⟩ := h a hp W0 x
  have st : Sat (envM N W0 C x (dom a)) (L2.start N (.ref x :: us)) W := by
    unfold envM L2.start
    rw [← ad.len]
    exact ⟨⟨rfl, n, hF, dx, [], hH, trivial⟩, sat_env ad⟩
  refine h _ W l st _ fun σ' U lu fu su => ?_
  match σ', su with
  | some v :: σ', su =>
    have e : v = .ref x := su.1.1
    subst e
    exact q U lu fu su.1
  | none :: _, su => exact su.elim
  | [], su => exact su.elim
theorem len_mk {α : Type} {pre : α → Prop} {dom : α → List Dsc} {fs : α → List (Str × Dsc)} {n : Nat} (hn : ∀ a, (dom a).length + 1 = n) (vs : List V) (H : Hp) (Q : VK) (E : XK) (k : spMk C pre dom fs vs H Q E) : vs.length = n := by
  obtain ⟨a, W0, W, x, dx, us, rfl, _, _, _, _, _, _, ad, _⟩ := k
  rw [List.length_cons, ad.len, hn a]

/-! ### more built-ins -/
theorem ev_ord {c : Nat} (h : Ev te G W (dS ⟨#[c]⟩)) : Ev (tCB cOrd (tCons te tNil)) G W (dN c) := by
  refine ev_cb (ea_cons h ea_nil) fun W1 _ vs a Q q => ?_
  obtain ⟨v, rfl, e⟩ := a.one
  exact ⟨⟨#[c]⟩, by rw [show v = _ from e], rfl, q _ W1 (Le.refl _) rfl⟩
theorem ev_intB (h : Ev te G W (dB b)) : Ev (tCB cInt (tCons te tNil)) G W (dI (if b then 1 else 0)) := by
  refine ev_cb (ea_cons h ea_nil) fun W1 _ vs a Q q => ?_
  obtain ⟨v, rfl, e⟩ := a.one
  exact .inr ⟨b, by rw [show v = _ from e], q _ W1 (Le.refl _) rfl⟩
theorem ev_strI {i : Int} (h : Ev te G W (dI i)) (hi : i.natAbs.log2 < 1920) : Ev (tCB cStrI (tCons te tNil)) G W (dS (toString i)) := by
  refine ev_cb (ea_cons h ea_nil) fun W1 _ vs a Q q => ?_
  obtain ⟨v, rfl, e⟩ := a.one
  exact ⟨i, by rw [show v = _ from e], hi, q _ W1 (Le.refl _) rfl⟩
theorem ev_fmtI {i : Int} (h : Ev te G W (dI i)) (hi : i.natAbs.log2 < 1920) : Ev (tFmt te) G W (dS (toString i)) := fun σ W1 l s Q q => h σ W1 l s _ fun v W2 l2 e => .inr ⟨i, e, hi, q _ W2 l2 rfl⟩
theorem ev_fmtS {y : Str} (h : Ev te G W (dS y)) (hy : y.length ≤ sizeLine) : Ev (tFmt te) G W (dS y) := fun σ W1 l s Q q => h σ W1 l s _ fun v W2 l2 e => .inl ⟨y, e, hy, q _ W2 l2 rfl⟩
/-- the parts of an f-string -/
inductive EvJ (G : En) (W : Wd) : List TE → List Str → Prop where
  | nil : EvJ G W [] []
  | cons {t : TE} {y : Str} {ts : List TE} {ys : List Str} : Ev t G W (dS y) → EvJ G W ts ys → EvJ G W (t :: ts) (y :: ys)
theorem js_run {σ : L2.St} {ts : List TE} {ys : List Str} (h : EvJ G W ts ys) : ∀ (acc : Str) (W1 : Wd), Le W W1 → Sat G σ W1 → acc.length + (ys.map (·.length)).sum ≤ sizeLine → ∀ Q : Str → Hp → Prop, (∀ U, Le W1 U → Q (ys.foldl (· ++ ·) acc) U.H) → tJs ts acc σ W1.H Q := by
  induction h with
  | nil => intro acc W1 l s hl Q q; exact q W1 (Le.refl _)
  | @cons t y ts ys ht _ ih =>
    intro acc W1 l s hl Q q
    rw [List.map_cons, List.sum_cons] at hl
    have e : (acc ++ y).length = acc.length + y.length := by
      show (acc.cps ++ y.cps).size = _
      rw [Array.size_append]; rfl
    exact ht σ W1 l s _ fun v W2 l2 ev => ⟨y, ev, by rw [e]; omega, ih (acc ++ y) W2 (l.trans l2) (s.mono l2) (by rw [e]; omega) Q fun U lu => q U (l2.trans lu)⟩
theorem ev_joined {ts : List TE} {ys : List Str} (h : EvJ G W ts ys) (hl : (ys.map (·.length)).sum ≤ sizeLine) : Ev (tJd ts) G W (dS (ys.foldl (· ++ ·) Str.empty)) := fun σ W1 l s Q q =>
  js_run h Str.empty W1 l s (by show 0 + _ ≤ _; omega) _ fun U lu => q _ U lu rfl
theorem ev_join {y : Str} {ys : List Str} (ha : Ev ta G W (dS y)) (hb : Ev tb G W (dL (ys.map dS))) (hl : (ys.map (·.length)).sum + ys.length * y.length ≤ 16777216) : Ev (tM1 (rJoin K) ta tb) G W (dS (Txt.join y ys)) := fun σ W1 l s Q q =>
  ha σ W1 l s _ fun v W2 l2 e => ⟨⟨y, e⟩, hb σ W2 (l.trans l2) (s.mono l2) _ fun u W3 l3 ⟨p, vs, eu, hp, hv⟩ => by
    have e2 : vs = ys.map V.str := AllD.of_vals (by rw [List.map_map]; exact hv)
    subst e2
    exact ⟨y, p, ys, e, by rw [eu], .inl (sqL_of hp), hl, q _ W3 (l2.trans l3) rfl⟩⟩
/-- xs.index(y), ints: the first place -/
theorem ev_index {ns : List Int} {m : Int} {j : Nat} (ha : Ev ta G W (dIs ns)) (hb : Ev tb G W (dI m)) (hj : ns[j]? = some m) (hn : ∀ (k : Nat), k < j → ns[k]? ≠ some m) : Ev (tBM K "list" (rIndex K) ta (tCons tb tNil)) G W (dN j) := fun σ W1 l s Q q =>
  ha σ W1 l s _ fun v W2 l2 ⟨p, vs, ev, hp, hv⟩ => by
    have e2 : vs = ns.map V.int := AllD.of_vals (by rw [List.map_map]; exact hv)
    subst e2 ev
    refine ⟨.inl ⟨rfl, _, sqL_of hp⟩, hb σ W2 (l.trans l2) (s.mono l2) _ fun u W3 l3 eu => ?_⟩
    refine ⟨p, ns.map V.int, .int m, j, .int m, rfl, by rw [show u = _ from eu], sqL_of (l3.f _ _ hp), rfl, List.all_eq_true.mpr fun z hz => ?_, by rw [List.getElem?_map, hj] <;> rfl, beq_self_eq_true m, fun k z' hk hz' => ?_, q _ W3 (l2.trans l3) rfl⟩
    · obtain ⟨i, _, rfl⟩ := List.mem_map.mp hz
      rfl
    · rw [List.getElem?_map] at hz'
      cases e : ns[k]? with
      | none => rw [e] at hz'; cases hz'
      | some i =>
        rw [e] at hz'
        cases hz'
        show (i == m) = false
        exact beq_eq_false_iff_ne.mpr fun e3 => hn k hk (by rw [e, e3])
theorem ev_isN {x : V} (h : Ev te G W (dV x)) : Ev (tOp oIsN te (tC .non)) G W (dB (decide (x = .non))) := ev_op h ev_c fun W1 _ u v eu ev Q q => by
  cases eu; cases ev
  exact ⟨rfl, q _ W1 (Le.refl _) rfl⟩
/-- data == [] -/
theorem eqv_nil {xs : List PyData} : PyData.eqv (.list xs) (.list []) = xs.isEmpty := by
  cases xs <;> simp [PyData.eqv, PyData.eqvAll]
end
end Fd

namespace Fd
open PySem PySem.Spec PyProof.Rows L2
def names0 : List PySem.Str := ["MOST_BYTES", "MOST_BYTE", "MOST_CARD", "MOST_CARDS_limits", "MOST_PLAYED", "MOST_POINTS_limits", "MOST_CHOICE", "are_between", "is_row_within", "is_side", "is_within", "NEWLINE", "SPACE", "ZERO", "NINE", "FIRST_SUIT", "LAST_SUIT", "MOST_DIGITS", "MOST_RANK_words", "NONE_SAID"]
def names1 : List PySem.Str := ["line_ends", "is_word_start", "word_end", "words_of", "signs_of", "are_digits", "number_in", "suit_in", "card_in", "SUITS", "NOT_GIVEN", "Sheet", "is_given", "cards_on", "card_text", "number_lines", "hand_line", "printed_lines", "printed_form", "RANKS"]
def names2 : List PySem.Str := ["NO_SEAT", "Deal", "Position", "worths_of", "worth", "total_of", "beginning", "cards_left", "is_over", "seat_to_move", "side_to_move", "cards_of_suit", "legal_cards", "strength", "winning_place", "with_points", "behind_trick", "after", "position_after", "turn_information"]
def names3 : List PySem.Str := ["cards_elsewhere", "are_equivalent", "representatives", "best_of", "guaranteed", "values_after", "best_card", "best_line", "continuations", "led_values", "exchanged", "exchanged_value", "planned_card", "cards_by_plan", "plan_value", "plan_values", "plan_line", "chosen_card", "points_against", "NO_FAULT"]
def names4 : List PySem.Str := ["WRONG_WORD", "OUT_OF_RANGE", "TWICE", "TOO_MANY", "FEW_HANDS", "LONG_HANDS", "NO_LEADER", "OTHER_LENGTH", "NAMES", "MOST_HANDS", "MOST_CARDS_reading", "MOST_CARDS_OF_MANY", "MOST_POINTS_reading", "MOST_RANK_reading", "name_in", "number_fault", "suit_fault", "extra_fault", "cards_fault", "take_trump"]
def names5 : List PySem.Str := ["take_ruff", "number_line_fault", "take_number", "rank_fault", "take_worth", "length_fault", "take_hand", "take_line", "whole_fault", "read_deal", "OUTSIDE", "NO_DEAL", "PARSE_ERROR", "NOT_LEGAL", "TRICK_STARTED", "LOAD_DEAL", "CHECK_DEAL", "ONE_NUMBER", "TWO_NUMBERS", "WITH_A_LIST"]
def names6 : List PySem.Str := ["Table", "listed", "both_sides", "load_deal", "check_deal", "play_card", "take_back", "told_position", "told_values", "told_claim", "told_leaders", "told_exchange", "told_summary", "told_plan", "told_against", "shown", "found_out", "asked_with", "performed", "answer_of"]
def names7 : List PySem.Str := ["many_numbers", "row_at"]
def names : List PySem.Str := names0 ++ (names1 ++ (names2 ++ (names3 ++ (names4 ++ (names5 ++ (names6 ++ (names7)))))))
def top (i : Nat) : Stmt := PySem.Challenge.pw_facedup_s01_answers.main.body.getD i (.Pass ⟨0, 0, 0, 0⟩)
abbrev s_are_between : Stmt := top 8
def d_are_between : He.DefD := ⟨("are_between", none), "are_between", "are_between", defArgs s_are_between, defBody s_are_between, defScope s_are_between, [], []⟩
abbrev s_is_row_within : Stmt := top 9
def d_is_row_within : He.DefD := ⟨("is_row_within", none), "is_row_within", "is_row_within", defArgs s_is_row_within, defBody s_is_row_within, defScope s_is_row_within, [], []⟩
abbrev s_is_side : Stmt := top 10
def d_is_side : He.DefD := ⟨("is_side", none), "is_side", "is_side", defArgs s_is_side, defBody s_is_side, defScope s_is_side, [], []⟩
abbrev s_is_within : Stmt := top 11
def d_is_within : He.DefD := ⟨("is_within", none), "is_within", "is_within", defArgs s_is_within, defBody s_is_within, defScope s_is_within, [], []⟩
abbrev s_line_ends : Stmt := top 22
def d_line_ends : He.DefD := ⟨("line_ends", none), "line_ends", "line_ends", defArgs s_line_ends, defBody s_line_ends, defScope s_line_ends, [], []⟩
abbrev s_is_word_start : Stmt := top 23
def d_is_word_start : He.DefD := ⟨("is_word_start", none), "is_word_start", "is_word_start", defArgs s_is_word_start, defBody s_is_word_start, defScope s_is_word_start, [], []⟩
abbrev s_word_end : Stmt := top 24
def d_word_end : He.DefD := ⟨("word_end", none), "word_end", "word_end", defArgs s_word_end, defBody s_word_end, defScope s_word_end, [], []⟩
abbrev s_words_of : Stmt := top 25
def d_words_of : He.DefD := ⟨("words_of", none), "words_of", "words_of", defArgs s_words_of, defBody s_words_of, defScope s_words_of, [], []⟩
abbrev s_signs_of : Stmt := top 26
def d_signs_of : He.DefD := ⟨("signs_of", none), "signs_of", "signs_of", defArgs s_signs_of, defBody s_signs_of, defScope s_signs_of, [], []⟩
abbrev s_are_digits : Stmt := top 27
def d_are_digits : He.DefD := ⟨("are_digits", none), "are_digits", "are_digits", defArgs s_are_digits, defBody s_are_digits, defScope s_are_digits, [], []⟩
abbrev s_number_in : Stmt := top 28
def d_number_in : He.DefD := ⟨("number_in", none), "number_in", "number_in", defArgs s_number_in, defBody s_number_in, defScope s_number_in, [], []⟩
abbrev s_suit_in : Stmt := top 29
def d_suit_in : He.DefD := ⟨("suit_in", none), "suit_in", "suit_in", defArgs s_suit_in, defBody s_suit_in, defScope s_suit_in, [], []⟩
abbrev s_card_in : Stmt := top 30
def d_card_in : He.DefD := ⟨("card_in", none), "card_in", "card_in", defArgs s_card_in, defBody s_card_in, defScope s_card_in, [], []⟩
abbrev s_is_given : Stmt := top 35
def d_is_given : He.DefD := ⟨("is_given", none), "is_given", "is_given", defArgs s_is_given, defBody s_is_given, defScope s_is_given, [], []⟩
abbrev s_cards_on : Stmt := top 36
def d_cards_on : He.DefD := ⟨("cards_on", none), "cards_on", "cards_on", defArgs s_cards_on, defBody s_cards_on, defScope s_cards_on, [], []⟩
abbrev s_card_text : Stmt := top 37
def d_card_text : He.DefD := ⟨("card_text", none), "card_text", "card_text", defArgs s_card_text, defBody s_card_text, defScope s_card_text, [], []⟩
abbrev s_number_lines : Stmt := top 38
def d_number_lines : He.DefD := ⟨("number_lines", none), "number_lines", "number_lines", defArgs s_number_lines, defBody s_number_lines, defScope s_number_lines, [], []⟩
abbrev s_hand_line : Stmt := top 39
def d_hand_line : He.DefD := ⟨("hand_line", none), "hand_line", "hand_line", defArgs s_hand_line, defBody s_hand_line, defScope s_hand_line, [], []⟩
abbrev s_printed_lines : Stmt := top 40
def d_printed_lines : He.DefD := ⟨("printed_lines", none), "printed_lines", "printed_lines", defArgs s_printed_lines, defBody s_printed_lines, defScope s_printed_lines, [], []⟩
abbrev s_printed_form : Stmt := top 41
def d_printed_form : He.DefD := ⟨("printed_form", none), "printed_form", "printed_form", defArgs s_printed_form, defBody s_printed_form, defScope s_printed_form, [], []⟩
abbrev s_worths_of : Stmt := top 47
def d_worths_of : He.DefD := ⟨("worths_of", none), "worths_of", "worths_of", defArgs s_worths_of, defBody s_worths_of, defScope s_worths_of, [], []⟩
abbrev s_worth : Stmt := top 48
def d_worth : He.DefD := ⟨("worth", none), "worth", "worth", defArgs s_worth, defBody s_worth, defScope s_worth, [], []⟩
abbrev s_total_of : Stmt := top 49
def d_total_of : He.DefD := ⟨("total_of", none), "total_of", "total_of", defArgs s_total_of, defBody s_total_of, defScope s_total_of, [], []⟩
abbrev s_beginning : Stmt := top 50
def d_beginning : He.DefD := ⟨("beginning", none), "beginning", "beginning", defArgs s_beginning, defBody s_beginning, defScope s_beginning, [], []⟩
abbrev s_cards_left : Stmt := top 51
def d_cards_left : He.DefD := ⟨("cards_left", none), "cards_left", "cards_left", defArgs s_cards_left, defBody s_cards_left, defScope s_cards_left, [], []⟩
abbrev s_is_over : Stmt := top 52
def d_is_over : He.DefD := ⟨("is_over", none), "is_over", "is_over", defArgs s_is_over, defBody s_is_over, defScope s_is_over, [], []⟩
abbrev s_seat_to_move : Stmt := top 53
def d_seat_to_move : He.DefD := ⟨("seat_to_move", none), "seat_to_move", "seat_to_move", defArgs s_seat_to_move, defBody s_seat_to_move, defScope s_seat_to_move, [], []⟩
abbrev s_side_to_move : Stmt := top 54
def d_side_to_move : He.DefD := ⟨("side_to_move", none), "side_to_move", "side_to_move", defArgs s_side_to_move, defBody s_side_to_move, defScope s_side_to_move, [], []⟩
abbrev s_cards_of_suit : Stmt := top 55
def d_cards_of_suit : He.DefD := ⟨("cards_of_suit", none), "cards_of_suit", "cards_of_suit", defArgs s_cards_of_suit, defBody s_cards_of_suit, defScope s_cards_of_suit, [], []⟩
abbrev s_legal_cards : Stmt := top 56
def d_legal_cards : He.DefD := ⟨("legal_cards", none), "legal_cards", "legal_cards", defArgs s_legal_cards, defBody s_legal_cards, defScope s_legal_cards, [], []⟩
abbrev s_strength : Stmt := top 57
def d_strength : He.DefD := ⟨("strength", none), "strength", "strength", defArgs s_strength, defBody s_strength, defScope s_strength, [], []⟩
abbrev s_winning_place : Stmt := top 58
def d_winning_place : He.DefD := ⟨("winning_place", none), "winning_place", "winning_place", defArgs s_winning_place, defBody s_winning_place, defScope s_winning_place, [], []⟩
abbrev s_with_points : Stmt := top 59
def d_with_points : He.DefD := ⟨("with_points", none), "with_points", "with_points", defArgs s_with_points, defBody s_with_points, defScope s_with_points, [], []⟩
abbrev s_behind_trick : Stmt := top 60
def d_behind_trick : He.DefD := ⟨("behind_trick", none), "behind_trick", "behind_trick", defArgs s_behind_trick, defBody s_behind_trick, defScope s_behind_trick, [], []⟩
abbrev s_after : Stmt := top 61
def d_after : He.DefD := ⟨("after", none), "after", "after", defArgs s_after, defBody s_after, defScope s_after, [], []⟩
abbrev s_position_after : Stmt := top 62
def d_position_after : He.DefD := ⟨("position_after", none), "position_after", "position_after", defArgs s_position_after, defBody s_position_after, defScope s_position_after, [], []⟩
abbrev s_turn_information : Stmt := top 63
def d_turn_information : He.DefD := ⟨("turn_information", none), "turn_information", "turn_information", defArgs s_turn_information, defBody s_turn_information, defScope s_turn_information, [], []⟩
abbrev s_cards_elsewhere : Stmt := top 64
def d_cards_elsewhere : He.DefD := ⟨("cards_elsewhere", none), "cards_elsewhere", "cards_elsewhere", defArgs s_cards_elsewhere, defBody s_cards_elsewhere, defScope s_cards_elsewhere, [], []⟩
abbrev s_are_equivalent : Stmt := top 65
def d_are_equivalent : He.DefD := ⟨("are_equivalent", none), "are_equivalent", "are_equivalent", defArgs s_are_equivalent, defBody s_are_equivalent, defScope s_are_equivalent, [], []⟩
abbrev s_representatives : Stmt := top 66
def d_representatives : He.DefD := ⟨("representatives", none), "representatives", "representatives", defArgs s_representatives, defBody s_representatives, defScope s_representatives, [], []⟩
abbrev s_best_of : Stmt := top 68
def d_best_of : He.DefD := ⟨("best_of", none), "best_of", "best_of", defArgs s_best_of, defBody s_best_of, defScope s_best_of, [], []⟩
abbrev s_guaranteed : Stmt := top 69
def d_guaranteed : He.DefD := ⟨("guaranteed", none), "guaranteed", "guaranteed", defArgs s_guaranteed, defBody s_guaranteed, defScope s_guaranteed, [], []⟩
abbrev s_values_after : Stmt := top 70
def d_values_after : He.DefD := ⟨("values_after", none), "values_after", "values_after", defArgs s_values_after, defBody s_values_after, defScope s_values_after, [], []⟩
abbrev s_best_card : Stmt := top 71
def d_best_card : He.DefD := ⟨("best_card", none), "best_card", "best_card", defArgs s_best_card, defBody s_best_card, defScope s_best_card, [], []⟩
abbrev s_best_line : Stmt := top 72
def d_best_line : He.DefD := ⟨("best_line", none), "best_line", "best_line", defArgs s_best_line, defBody s_best_line, defScope s_best_line, [], []⟩
abbrev s_continuations : Stmt := top 73
def d_continuations : He.DefD := ⟨("continuations", none), "continuations", "continuations", defArgs s_continuations, defBody s_continuations, defScope s_continuations, [], []⟩
abbrev s_led_values : Stmt := top 74
def d_led_values : He.DefD := ⟨("led_values", none), "led_values", "led_values", defArgs s_led_values, defBody s_led_values, defScope s_led_values, [], []⟩
abbrev s_exchanged : Stmt := top 75
def d_exchanged : He.DefD := ⟨("exchanged", none), "exchanged", "exchanged", defArgs s_exchanged, defBody s_exchanged, defScope s_exchanged, [], []⟩
abbrev s_exchanged_value : Stmt := top 76
def d_exchanged_value : He.DefD := ⟨("exchanged_value", none), "exchanged_value", "exchanged_value", defArgs s_exchanged_value, defBody s_exchanged_value, defScope s_exchanged_value, [], []⟩
abbrev s_planned_card : Stmt := top 78
def d_planned_card : He.DefD := ⟨("planned_card", none), "planned_card", "planned_card", defArgs s_planned_card, defBody s_planned_card, defScope s_planned_card, [], []⟩
abbrev s_cards_by_plan : Stmt := top 79
def d_cards_by_plan : He.DefD := ⟨("cards_by_plan", none), "cards_by_plan", "cards_by_plan", defArgs s_cards_by_plan, defBody s_cards_by_plan, defScope s_cards_by_plan, [], []⟩
abbrev s_plan_value : Stmt := top 80
def d_plan_value : He.DefD := ⟨("plan_value", none), "plan_value", "plan_value", defArgs s_plan_value, defBody s_plan_value, defScope s_plan_value, [], []⟩
abbrev s_plan_values : Stmt := top 81
def d_plan_values : He.DefD := ⟨("plan_values", none), "plan_values", "plan_values", defArgs s_plan_values, defBody s_plan_values, defScope s_plan_values, [], []⟩
abbrev s_plan_line : Stmt := top 82
def d_plan_line : He.DefD := ⟨("plan_line", none), "plan_line", "plan_line", defArgs s_plan_line, defBody s_plan_line, defScope s_plan_line, [], []⟩
abbrev s_chosen_card : Stmt := top 83
def d_chosen_card : He.DefD := ⟨("chosen_card", none), "chosen_card", "chosen_card", defArgs s_chosen_card, defBody s_chosen_card, defScope s_chosen_card, [], []⟩
abbrev s_points_against : Stmt := top 84
def d_points_against : He.DefD := ⟨("points_against", none), "points_against", "points_against", defArgs s_points_against, defBody s_points_against, defScope s_points_against, [], []⟩
abbrev s_name_in : Stmt := top 101
def d_name_in : He.DefD := ⟨("name_in", none), "name_in", "name_in", defArgs s_name_in, defBody s_name_in, defScope s_name_in, [], []⟩
abbrev s_number_fault : Stmt := top 102
def d_number_fault : He.DefD := ⟨("number_fault", none), "number_fault", "number_fault", defArgs s_number_fault, defBody s_number_fault, defScope s_number_fault, [], []⟩
abbrev s_suit_fault : Stmt := top 103
def d_suit_fault : He.DefD := ⟨("suit_fault", none), "suit_fault", "suit_fault", defArgs s_suit_fault, defBody s_suit_fault, defScope s_suit_fault, [], []⟩
abbrev s_extra_fault : Stmt := top 104
def d_extra_fault : He.DefD := ⟨("extra_fault", none), "extra_fault", "extra_fault", defArgs s_extra_fault, defBody s_extra_fault, defScope s_extra_fault, [], []⟩
abbrev s_cards_fault : Stmt := top 105
def d_cards_fault : He.DefD := ⟨("cards_fault", none), "cards_fault", "cards_fault", defArgs s_cards_fault, defBody s_cards_fault, defScope s_cards_fault, [], []⟩
abbrev s_take_trump : Stmt := top 106
def d_take_trump : He.DefD := ⟨("take_trump", none), "take_trump", "take_trump", defArgs s_take_trump, defBody s_take_trump, defScope s_take_trump, [], []⟩
abbrev s_take_ruff : Stmt := top 107
def d_take_ruff : He.DefD := ⟨("take_ruff", none), "take_ruff", "take_ruff", defArgs s_take_ruff, defBody s_take_ruff, defScope s_take_ruff, [], []⟩
abbrev s_number_line_fault : Stmt := top 108
def d_number_line_fault : He.DefD := ⟨("number_line_fault", none), "number_line_fault", "number_line_fault", defArgs s_number_line_fault, defBody s_number_line_fault, defScope s_number_line_fault, [], []⟩
abbrev s_take_number : Stmt := top 109
def d_take_number : He.DefD := ⟨("take_number", none), "take_number", "take_number", defArgs s_take_number, defBody s_take_number, defScope s_take_number, [], []⟩
abbrev s_rank_fault : Stmt := top 110
def d_rank_fault : He.DefD := ⟨("rank_fault", none), "rank_fault", "rank_fault", defArgs s_rank_fault, defBody s_rank_fault, defScope s_rank_fault, [], []⟩
abbrev s_take_worth : Stmt := top 111
def d_take_worth : He.DefD := ⟨("take_worth", none), "take_worth", "take_worth", defArgs s_take_worth, defBody s_take_worth, defScope s_take_worth, [], []⟩
abbrev s_length_fault : Stmt := top 112
def d_length_fault : He.DefD := ⟨("length_fault", none), "length_fault", "length_fault", defArgs s_length_fault, defBody s_length_fault, defScope s_length_fault, [], []⟩
abbrev s_take_hand : Stmt := top 113
def d_take_hand : He.DefD := ⟨("take_hand", none), "take_hand", "take_hand", defArgs s_take_hand, defBody s_take_hand, defScope s_take_hand, [], []⟩
abbrev s_take_line : Stmt := top 114
def d_take_line : He.DefD := ⟨("take_line", none), "take_line", "take_line", defArgs s_take_line, defBody s_take_line, defScope s_take_line, [], []⟩
abbrev s_whole_fault : Stmt := top 115
def d_whole_fault : He.DefD := ⟨("whole_fault", none), "whole_fault", "whole_fault", defArgs s_whole_fault, defBody s_whole_fault, defScope s_whole_fault, [], []⟩
abbrev s_read_deal : Stmt := top 116
def d_read_deal : He.DefD := ⟨("read_deal", none), "read_deal", "read_deal", defArgs s_read_deal, defBody s_read_deal, defScope s_read_deal, [], []⟩
abbrev s_listed : Stmt := top 129
def d_listed : He.DefD := ⟨("listed", none), "listed", "listed", defArgs s_listed, defBody s_listed, defScope s_listed, [], []⟩
abbrev s_both_sides : Stmt := top 130
def d_both_sides : He.DefD := ⟨("both_sides", none), "both_sides", "both_sides", defArgs s_both_sides, defBody s_both_sides, defScope s_both_sides, [], []⟩
abbrev s_load_deal : Stmt := top 131
def d_load_deal : He.DefD := ⟨("load_deal", none), "load_deal", "load_deal", defArgs s_load_deal, defBody s_load_deal, defScope s_load_deal, [], []⟩
abbrev s_check_deal : Stmt := top 132
def d_check_deal : He.DefD := ⟨("check_deal", none), "check_deal", "check_deal", defArgs s_check_deal, defBody s_check_deal, defScope s_check_deal, [], []⟩
abbrev s_play_card : Stmt := top 133
def d_play_card : He.DefD := ⟨("play_card", none), "play_card", "play_card", defArgs s_play_card, defBody s_play_card, defScope s_play_card, [], []⟩
abbrev s_take_back : Stmt := top 134
def d_take_back : He.DefD := ⟨("take_back", none), "take_back", "take_back", defArgs s_take_back, defBody s_take_back, defScope s_take_back, [], []⟩
abbrev s_told_position : Stmt := top 135
def d_told_position : He.DefD := ⟨("told_position", none), "told_position", "told_position", defArgs s_told_position, defBody s_told_position, defScope s_told_position, [], []⟩
abbrev s_told_values : Stmt := top 136
def d_told_values : He.DefD := ⟨("told_values", none), "told_values", "told_values", defArgs s_told_values, defBody s_told_values, defScope s_told_values, [], []⟩
abbrev s_told_claim : Stmt := top 137
def d_told_claim : He.DefD := ⟨("told_claim", none), "told_claim", "told_claim", defArgs s_told_claim, defBody s_told_claim, defScope s_told_claim, [], []⟩
abbrev s_told_leaders : Stmt := top 138
def d_told_leaders : He.DefD := ⟨("told_leaders", none), "told_leaders", "told_leaders", defArgs s_told_leaders, defBody s_told_leaders, defScope s_told_leaders, [], []⟩
abbrev s_told_exchange : Stmt := top 139
def d_told_exchange : He.DefD := ⟨("told_exchange", none), "told_exchange", "told_exchange", defArgs s_told_exchange, defBody s_told_exchange, defScope s_told_exchange, [], []⟩
abbrev s_told_summary : Stmt := top 140
def d_told_summary : He.DefD := ⟨("told_summary", none), "told_summary", "told_summary", defArgs s_told_summary, defBody s_told_summary, defScope s_told_summary, [], []⟩
abbrev s_told_plan : Stmt := top 141
def d_told_plan : He.DefD := ⟨("told_plan", none), "told_plan", "told_plan", defArgs s_told_plan, defBody s_told_plan, defScope s_told_plan, [], []⟩
abbrev s_told_against : Stmt := top 142
def d_told_against : He.DefD := ⟨("told_against", none), "told_against", "told_against", defArgs s_told_against, defBody s_told_against, defScope s_told_against, [], []⟩
abbrev s_shown : Stmt := top 143
def d_shown : He.DefD := ⟨("shown", none), "shown", "shown", defArgs s_shown, defBody s_shown, defScope s_shown, [], []⟩
abbrev s_found_out : Stmt := top 144
def d_found_out : He.DefD := ⟨("found_out", none), "found_out", "found_out", defArgs s_found_out, defBody s_found_out, defScope s_found_out, [], []⟩
abbrev s_asked_with : Stmt := top 145
def d_asked_with : He.DefD := ⟨("asked_with", none), "asked_with", "asked_with", defArgs s_asked_with, defBody s_asked_with, defScope s_asked_with, [], []⟩
abbrev s_performed : Stmt := top 146
def d_performed : He.DefD := ⟨("performed", none), "performed", "performed", defArgs s_performed, defBody s_performed, defScope s_performed, [], []⟩
abbrev s_answer_of : Stmt := top 147
def d_answer_of : He.DefD := ⟨("answer_of", none), "answer_of", "answer_of", defArgs s_answer_of, defBody s_answer_of, defScope s_answer_of, [], []⟩
abbrev s_many_numbers : Stmt := top 148
def d_many_numbers : He.DefD := ⟨("many_numbers", none), "many_numbers", "many_numbers", defArgs s_many_numbers, defBody s_many_numbers, defScope s_many_numbers, [], []⟩
abbrev s_row_at : Stmt := top 149
def d_row_at : He.DefD := ⟨("row_at", none), "row_at", "row_at", defArgs s_row_at, defBody s_row_at, defScope s_row_at, [], []⟩
abbrev s_answers : Stmt := top 150
def d_answers : He.DefD := ⟨("answers", none), "answers", "answers", defArgs s_answers, defBody s_answers, defScope s_answers, [], []⟩
abbrev s_Sheet : Stmt := inClass (top 34) 0
def d_Sheet : He.DefD := ⟨("Sheet", some "__init__"), "__init__", "Sheet.__init__", defArgs s_Sheet, defBody s_Sheet, defScope s_Sheet, [], []⟩
abbrev s_Deal : Stmt := inClass (top 45) 0
def d_Deal : He.DefD := ⟨("Deal", some "__init__"), "__init__", "Deal.__init__", defArgs s_Deal, defBody s_Deal, defScope s_Deal, [], []⟩
abbrev s_Position : Stmt := inClass (top 46) 0
def d_Position : He.DefD := ⟨("Position", some "__init__"), "__init__", "Position.__init__", defArgs s_Position, defBody s_Position, defScope s_Position, [], []⟩
abbrev s_Table : Stmt := inClass (top 128) 0
def d_Table : He.DefD := ⟨("Table", some "__init__"), "__init__", "Table.__init__", defArgs s_Table, defBody s_Table, defScope s_Table, [], []⟩
def fn0 : List He.DefD := [d_are_between, d_is_row_within, d_is_side, d_is_within, d_line_ends, d_is_word_start, d_word_end, d_words_of, d_signs_of, d_are_digits, d_number_in, d_suit_in, d_card_in, d_is_given, d_cards_on, d_card_text, d_number_lines, d_hand_line, d_printed_lines, d_printed_form, d_worths_of, d_worth, d_total_of, d_beginning, d_cards_left, d_is_over, d_seat_to_move, d_side_to_move, d_cards_of_suit, d_legal_cards]
def fn1 : List He.DefD := [d_strength, d_winning_place, d_with_points, d_behind_trick, d_after, d_position_after, d_turn_information, d_cards_elsewhere, d_are_equivalent, d_representatives, d_best_of, d_guaranteed, d_values_after, d_best_card, d_best_line, d_continuations, d_led_values, d_exchanged, d_exchanged_value, d_planned_card, d_cards_by_plan, d_plan_value, d_plan_values, d_plan_line, d_chosen_card, d_points_against, d_name_in, d_number_fault, d_suit_fault, d_extra_fault]
def fn2 : List He.DefD := [d_cards_fault, d_take_trump, d_take_ruff, d_number_line_fault, d_take_number, d_rank_fault, d_take_worth, d_length_fault, d_take_hand, d_take_line, d_whole_fault, d_read_deal, d_listed, d_both_sides, d_load_deal, d_check_deal, d_play_card, d_take_back, d_told_position, d_told_values, d_told_claim, d_told_leaders, d_told_exchange, d_told_summary, d_told_plan, d_told_against, d_shown, d_found_out, d_asked_with, d_performed]
def fn3 : List He.DefD := [d_answer_of, d_many_numbers, d_row_at, d_answers, d_Sheet, d_Deal, d_Position, d_Table]
def fn : List He.DefD := fn0 ++ (fn1 ++ (fn2 ++ (fn3)))
def fa0 : List He.Fa := [.glo "are_between", .glo "is_row_within", .glo "is_side", .glo "is_within", .glo "line_ends", .glo "is_word_start", .glo "word_end", .glo "words_of", .glo "signs_of", .glo "are_digits", .glo "number_in", .glo "suit_in", .glo "card_in", .glo "is_given", .glo "cards_on", .glo "card_text", .glo "number_lines", .glo "hand_line", .glo "printed_lines", .glo "printed_form", .glo "worths_of", .glo "worth", .glo "total_of", .glo "beginning", .glo "cards_left", .glo "is_over", .glo "seat_to_move", .glo "side_to_move", .glo "cards_of_suit", .glo "legal_cards"]
def fa1 : List He.Fa := [.glo "strength", .glo "winning_place", .glo "with_points", .glo "behind_trick", .glo "after", .glo "position_after", .glo "turn_information", .glo "cards_elsewhere", .glo "are_equivalent", .glo "representatives", .glo "best_of", .glo "guaranteed", .glo "values_after", .glo "best_card", .glo "best_line", .glo "continuations", .glo "led_values", .glo "exchanged", .glo "exchanged_value", .glo "planned_card", .glo "cards_by_plan", .glo "plan_value", .glo "plan_values", .glo "plan_line", .glo "chosen_card", .glo "points_against", .glo "name_in", .glo "number_fault", .glo "suit_fault", .glo "extra_fault"]
def fa2 : List He.Fa := [.glo "cards_fault", .glo "take_trump", .glo "take_ruff", .glo "number_line_fault", .glo "take_number", .glo "rank_fault", .glo "take_worth", .glo "length_fault", .glo "take_hand", .glo "take_line", .glo "whole_fault", .glo "read_deal", .glo "listed", .glo "both_sides", .glo "load_deal", .glo "check_deal", .glo "play_card", .glo "take_back", .glo "told_position", .glo "told_values", .glo "told_claim", .glo "told_leaders", .glo "told_exchange", .glo "told_summary", .glo "told_plan", .glo "told_against", .glo "shown", .glo "found_out", .glo "asked_with", .glo "performed"]
def fa3 : List He.Fa := [.glo "answer_of", .glo "many_numbers", .glo "row_at", .glo "answers", .glo "Sheet", .glo "Deal", .glo "Position", .glo "Table", .glo "NO_FAULT", .glo "NAMES", .glo "ONE_NUMBER", .glo "TWO_NUMBERS", .glo "WITH_A_LIST", .free "all", .free "any", .free "len", .free "enumerate", .free "range", .free "ord", .free "str", .free "sum", .free "list", .free "max", .free "min", .free "zip", .free "int", .int "MOST_BYTES" (2000), .int "MOST_BYTE" (255), .int "MOST_CARD" (63), .int "MOST_CARDS_limits" (20)]
def fa4 : List He.Fa := [.int "MOST_PLAYED" (12), .int "MOST_POINTS_limits" (10000), .int "MOST_CHOICE" (20), .int "NEWLINE" (10), .int "SPACE" (32), .int "ZERO" (48), .int "NINE" (57), .int "FIRST_SUIT" (97), .int "LAST_SUIT" (100), .int "MOST_DIGITS" (3), .int "MOST_RANK_words" (13), .int "NONE_SAID" (-1), .int "NOT_GIVEN" (-1), .int "RANKS" (14), .int "NO_SEAT" (-1), .int "WRONG_WORD" (1), .int "OUT_OF_RANGE" (3), .int "TWICE" (4), .int "TOO_MANY" (7), .int "FEW_HANDS" (9), .int "LONG_HANDS" (11), .int "NO_LEADER" (12), .int "OTHER_LENGTH" (13), .int "MOST_HANDS" (4), .int "MOST_CARDS_reading" (4), .int "MOST_CARDS_OF_MANY" (3), .int "MOST_POINTS_reading" (50), .int "MOST_RANK_reading" (13), .int "OUTSIDE" (-1), .int "NO_DEAL" (-2)]
def fa5 : List He.Fa := [.int "PARSE_ERROR" (-3), .int "NOT_LEGAL" (-4), .int "TRICK_STARTED" (-5), .int "LOAD_DEAL" (0), .int "CHECK_DEAL" (1), .str "SUITS" "abcd", .cls "Sheet", .mkr "Sheet", .noat "Sheet" "trump", .noat "Sheet" "is_ruff", .noat "Sheet" "trick", .noat "Sheet" "last", .noat "Sheet" "lead", .noat "Sheet" "worths", .noat "Sheet" "sides", .noat "Sheet" "hands", .cls "Deal", .mkr "Deal", .noat "Deal" "sheet", .noat "Deal" "trump", .noat "Deal" "is_ruff", .noat "Deal" "trick_points", .noat "Deal" "last_points", .noat "Deal" "lead", .noat "Deal" "worths", .noat "Deal" "sides", .noat "Deal" "hands", .cls "Position", .mkr "Position", .noat "Position" "hands"]
def fa6 : List He.Fa := [.noat "Position" "trick", .noat "Position" "leader", .noat "Position" "points", .cls "Table", .mkr "Table", .noat "Table" "deal", .noat "Table" "played"]
def fa : List He.Fa := fa0 ++ (fa1 ++ (fa2 ++ (fa3 ++ (fa4 ++ (fa5 ++ (fa6))))))
def exB (K : PySem.W.Frag) : Bool := He.tupB K "NO_FAULT" [.int (0), .int (0)] && (He.tupB K "NAMES" [.str "trump", .str "ruff", .str "trick", .str "last", .str "worth", .str "lead", .str "hand"] && (He.tupB K "ONE_NUMBER" [.int (3), .int (4), .int (11), .int (13)] && (He.tupB K "TWO_NUMBERS" [.int (12), .int (15)] && (He.tupB K "WITH_A_LIST" [.int (0), .int (1), .int (11), .int (13)]))))
theorem fg_are_between : He.Fa.glo "are_between" ∈ fa := gm 0 rfl
theorem fg_is_row_within : He.Fa.glo "is_row_within" ∈ fa := gm 1 rfl
theorem fg_is_side : He.Fa.glo "is_side" ∈ fa := gm 2 rfl
theorem fg_is_within : He.Fa.glo "is_within" ∈ fa := gm 3 rfl
theorem fg_line_ends : He.Fa.glo "line_ends" ∈ fa := gm 4 rfl
theorem fg_is_word_start : He.Fa.glo "is_word_start" ∈ fa := gm 5 rfl
theorem fg_word_end : He.Fa.glo "word_end" ∈ fa := gm 6 rfl
theorem fg_words_of : He.Fa.glo "words_of" ∈ fa := gm 7 rfl
theorem fg_signs_of : He.Fa.glo "signs_of" ∈ fa := gm 8 rfl
theorem fg_are_digits : He.Fa.glo "are_digits" ∈ fa := gm 9 rfl
theorem fg_number_in : He.Fa.glo "number_in" ∈ fa := gm 10 rfl
theorem fg_suit_in : He.Fa.glo "suit_in" ∈ fa := gm 11 rfl
theorem fg_card_in : He.Fa.glo "card_in" ∈ fa := gm 12 rfl
theorem fg_is_given : He.Fa.glo "is_given" ∈ fa := gm 13 rfl
theorem fg_cards_on : He.Fa.glo "cards_on" ∈ fa := gm 14 rfl
theorem fg_card_text : He.Fa.glo "card_text" ∈ fa := gm 15 rfl
theorem fg_number_lines : He.Fa.glo "number_lines" ∈ fa := gm 16 rfl
theorem fg_hand_line : He.Fa.glo "hand_line" ∈ fa := gm 17 rfl
theorem fg_printed_lines : He.Fa.glo "printed_lines" ∈ fa := gm 18 rfl
theorem fg_printed_form : He.Fa.glo "printed_form" ∈ fa := gm 19 rfl
theorem fg_worths_of : He.Fa.glo "worths_of" ∈ fa := gm 20 rfl
theorem fg_worth : He.Fa.glo "worth" ∈ fa := gm 21 rfl
theorem fg_total_of : He.Fa.glo "total_of" ∈ fa := gm 22 rfl
theorem fg_beginning : He.Fa.glo "beginning" ∈ fa := gm 23 rfl
theorem fg_cards_left : He.Fa.glo "cards_left" ∈ fa := gm 24 rfl
theorem fg_is_over : He.Fa.glo "is_over" ∈ fa := gm 25 rfl
theorem fg_seat_to_move : He.Fa.glo "seat_to_move" ∈ fa := gm 26 rfl
theorem fg_side_to_move : He.Fa.glo "side_to_move" ∈ fa := gm 27 rfl
theorem fg_cards_of_suit : He.Fa.glo "cards_of_suit" ∈ fa := gm 28 rfl
theorem fg_legal_cards : He.Fa.glo "legal_cards" ∈ fa := gm 29 rfl
theorem fg_strength : He.Fa.glo "strength" ∈ fa := gm 30 rfl
theorem fg_winning_place : He.Fa.glo "winning_place" ∈ fa := gm 31 rfl
theorem fg_with_points : He.Fa.glo "with_points" ∈ fa := gm 32 rfl
theorem fg_behind_trick : He.Fa.glo "behind_trick" ∈ fa := gm 33 rfl
theorem fg_after : He.Fa.glo "after" ∈ fa := gm 34 rfl
theorem fg_position_after : He.Fa.glo "position_after" ∈ fa := gm 35 rfl
theorem fg_turn_information : He.Fa.glo "turn_information" ∈ fa := gm 36 rfl
theorem fg_cards_elsewhere : He.Fa.glo "cards_elsewhere" ∈ fa := gm 37 rfl
theorem fg_are_equivalent : He.Fa.glo "are_equivalent" ∈ fa := gm 38 rfl
theorem fg_representatives : He.Fa.glo "representatives" ∈ fa := gm 39 rfl
theorem fg_best_of : He.Fa.glo "best_of" ∈ fa := gm 40 rfl
theorem fg_guaranteed : He.Fa.glo "guaranteed" ∈ fa := gm 41 rfl
theorem fg_values_after : He.Fa.glo "values_after" ∈ fa := gm 42 rfl
theorem fg_best_card : He.Fa.glo "best_card" ∈ fa := gm 43 rfl
theorem fg_best_line : He.Fa.glo "best_line" ∈ fa := gm 44 rfl
theorem fg_continuations : He.Fa.glo "continuations" ∈ fa := gm 45 rfl
theorem fg_led_values : He.Fa.glo "led_values" ∈ fa := gm 46 rfl
theorem fg_exchanged : He.Fa.glo "exchanged" ∈ fa := gm 47 rfl
theorem fg_exchanged_value : He.Fa.glo "exchanged_value" ∈ fa := gm 48 rfl
theorem fg_planned_card : He.Fa.glo "planned_card" ∈ fa := gm 49 rfl
theorem fg_cards_by_plan : He.Fa.glo "cards_by_plan" ∈ fa := gm 50 rfl
theorem fg_plan_value : He.Fa.glo "plan_value" ∈ fa := gm 51 rfl
theorem fg_plan_values : He.Fa.glo "plan_values" ∈ fa := gm 52 rfl
theorem fg_plan_line : He.Fa.glo "plan_line" ∈ fa := gm 53 rfl
theorem fg_chosen_card : He.Fa.glo "chosen_card" ∈ fa := gm 54 rfl
theorem fg_points_against : He.Fa.glo "points_against" ∈ fa := gm 55 rfl
theorem fg_name_in : He.Fa.glo "name_in" ∈ fa := gm 56 rfl
theorem fg_number_fault : He.Fa.glo "number_fault" ∈ fa := gm 57 rfl
theorem fg_suit_fault : He.Fa.glo "suit_fault" ∈ fa := gm 58 rfl
theorem fg_extra_fault : He.Fa.glo "extra_fault" ∈ fa := gm 59 rfl
theorem fg_cards_fault : He.Fa.glo "cards_fault" ∈ fa := gm 60 rfl
theorem fg_take_trump : He.Fa.glo "take_trump" ∈ fa := gm 61 rfl
theorem fg_take_ruff : He.Fa.glo "take_ruff" ∈ fa := gm 62 rfl
theorem fg_number_line_fault : He.Fa.glo "number_line_fault" ∈ fa := gm 63 rfl
theorem fg_take_number : He.Fa.glo "take_number" ∈ fa := gm 64 rfl
theorem fg_rank_fault : He.Fa.glo "rank_fault" ∈ fa := gm 65 rfl
theorem fg_take_worth : He.Fa.glo "take_worth" ∈ fa := gm 66 rfl
theorem fg_length_fault : He.Fa.glo "length_fault" ∈ fa := gm 67 rfl
theorem fg_take_hand : He.Fa.glo "take_hand" ∈ fa := gm 68 rfl
theorem fg_take_line : He.Fa.glo "take_line" ∈ fa := gm 69 rfl
theorem fg_whole_fault : He.Fa.glo "whole_fault" ∈ fa := gm 70 rfl
theorem fg_read_deal : He.Fa.glo "read_deal" ∈ fa := gm 71 rfl
theorem fg_listed : He.Fa.glo "listed" ∈ fa := gm 72 rfl
theorem fg_both_sides : He.Fa.glo "both_sides" ∈ fa := gm 73 rfl
theorem fg_load_deal : He.Fa.glo "load_deal" ∈ fa := gm 74 rfl
theorem fg_check_deal : He.Fa.glo "check_deal" ∈ fa := gm 75 rfl
theorem fg_play_card : He.Fa.glo "play_card" ∈ fa := gm 76 rfl
theorem fg_take_back : He.Fa.glo "take_back" ∈ fa := gm 77 rfl
theorem fg_told_position : He.Fa.glo "told_position" ∈ fa := gm 78 rfl
theorem fg_told_values : He.Fa.glo "told_values" ∈ fa := gm 79 rfl
theorem fg_told_claim : He.Fa.glo "told_claim" ∈ fa := gm 80 rfl
theorem fg_told_leaders : He.Fa.glo "told_leaders" ∈ fa := gm 81 rfl
theorem fg_told_exchange : He.Fa.glo "told_exchange" ∈ fa := gm 82 rfl
theorem fg_told_summary : He.Fa.glo "told_summary" ∈ fa := gm 83 rfl
theorem fg_told_plan : He.Fa.glo "told_plan" ∈ fa := gm 84 rfl
theorem fg_told_against : He.Fa.glo "told_against" ∈ fa := gm 85 rfl
theorem fg_shown : He.Fa.glo "shown" ∈ fa := gm 86 rfl
theorem fg_found_out : He.Fa.glo "found_out" ∈ fa := gm 87 rfl
theorem fg_asked_with : He.Fa.glo "asked_with" ∈ fa := gm 88 rfl
theorem fg_performed : He.Fa.glo "performed" ∈ fa := gm 89 rfl
theorem fg_answer_of : He.Fa.glo "answer_of" ∈ fa := gm 90 rfl
theorem fg_many_numbers : He.Fa.glo "many_numbers" ∈ fa := gm 91 rfl
theorem fg_row_at : He.Fa.glo "row_at" ∈ fa := gm 92 rfl
theorem fg_answers : He.Fa.glo "answers" ∈ fa := gm 93 rfl
theorem fg_Sheet : He.Fa.glo "Sheet" ∈ fa := gm 94 rfl
theorem fg_Deal : He.Fa.glo "Deal" ∈ fa := gm 95 rfl
theorem fg_Position : He.Fa.glo "Position" ∈ fa := gm 96 rfl
theorem fg_Table : He.Fa.glo "Table" ∈ fa := gm 97 rfl
theorem f_NO_FAULT : He.Fa.glo "NO_FAULT" ∈ fa := gm 98 rfl
theorem f_NAMES : He.Fa.glo "NAMES" ∈ fa := gm 99 rfl
theorem f_ONE_NUMBER : He.Fa.glo "ONE_NUMBER" ∈ fa := gm 100 rfl
theorem f_TWO_NUMBERS : He.Fa.glo "TWO_NUMBERS" ∈ fa := gm 101 rfl
theorem f_WITH_A_LIST : He.Fa.glo "WITH_A_LIST" ∈ fa := gm 102 rfl
theorem f_all : He.Fa.free "all" ∈ fa := gm 103 rfl
theorem f_any : He.Fa.free "any" ∈ fa := gm 104 rfl
theorem f_len : He.Fa.free "len" ∈ fa := gm 105 rfl
theorem f_enumerate : He.Fa.free "enumerate" ∈ fa := gm 106 rfl
theorem f_range : He.Fa.free "range" ∈ fa := gm 107 rfl
theorem f_ord : He.Fa.free "ord" ∈ fa := gm 108 rfl
theorem f_str : He.Fa.free "str" ∈ fa := gm 109 rfl
theorem f_sum : He.Fa.free "sum" ∈ fa := gm 110 rfl
theorem f_list : He.Fa.free "list" ∈ fa := gm 111 rfl
theorem f_max : He.Fa.free "max" ∈ fa := gm 112 rfl
theorem f_min : He.Fa.free "min" ∈ fa := gm 113 rfl
theorem f_zip : He.Fa.free "zip" ∈ fa := gm 114 rfl
theorem f_int : He.Fa.free "int" ∈ fa := gm 115 rfl
theorem f_MOST_BYTES : He.Fa.int "MOST_BYTES" (2000) ∈ fa := gm 116 rfl
theorem f_MOST_BYTE : He.Fa.int "MOST_BYTE" (255) ∈ fa := gm 117 rfl
theorem f_MOST_CARD : He.Fa.int "MOST_CARD" (63) ∈ fa := gm 118 rfl
theorem f_MOST_CARDS_limits : He.Fa.int "MOST_CARDS_limits" (20) ∈ fa := gm 119 rfl
theorem f_MOST_PLAYED : He.Fa.int "MOST_PLAYED" (12) ∈ fa := gm 120 rfl
theorem f_MOST_POINTS_limits : He.Fa.int "MOST_POINTS_limits" (10000) ∈ fa := gm 121 rfl
theorem f_MOST_CHOICE : He.Fa.int "MOST_CHOICE" (20) ∈ fa := gm 122 rfl
theorem f_NEWLINE : He.Fa.int "NEWLINE" (10) ∈ fa := gm 123 rfl
theorem f_SPACE : He.Fa.int "SPACE" (32) ∈ fa := gm 124 rfl
theorem f_ZERO : He.Fa.int "ZERO" (48) ∈ fa := gm 125 rfl
theorem f_NINE : He.Fa.int "NINE" (57) ∈ fa := gm 126 rfl
theorem f_FIRST_SUIT : He.Fa.int "FIRST_SUIT" (97) ∈ fa := gm 127 rfl
theorem f_LAST_SUIT : He.Fa.int "LAST_SUIT" (100) ∈ fa := gm 128 rfl
theorem f_MOST_DIGITS : He.Fa.int "MOST_DIGITS" (3) ∈ fa := gm 129 rfl
theorem f_MOST_RANK_words : He.Fa.int "MOST_RANK_words" (13) ∈ fa := gm 130 rfl
theorem f_NONE_SAID : He.Fa.int "NONE_SAID" (-1) ∈ fa := gm 131 rfl
theorem f_NOT_GIVEN : He.Fa.int "NOT_GIVEN" (-1) ∈ fa := gm 132 rfl
theorem f_RANKS : He.Fa.int "RANKS" (14) ∈ fa := gm 133 rfl
theorem f_NO_SEAT : He.Fa.int "NO_SEAT" (-1) ∈ fa := gm 134 rfl
theorem f_WRONG_WORD : He.Fa.int "WRONG_WORD" (1) ∈ fa := gm 135 rfl
theorem f_OUT_OF_RANGE : He.Fa.int "OUT_OF_RANGE" (3) ∈ fa := gm 136 rfl
theorem f_TWICE : He.Fa.int "TWICE" (4) ∈ fa := gm 137 rfl
theorem f_TOO_MANY : He.Fa.int "TOO_MANY" (7) ∈ fa := gm 138 rfl
theorem f_FEW_HANDS : He.Fa.int "FEW_HANDS" (9) ∈ fa := gm 139 rfl
theorem f_LONG_HANDS : He.Fa.int "LONG_HANDS" (11) ∈ fa := gm 140 rfl
theorem f_NO_LEADER : He.Fa.int "NO_LEADER" (12) ∈ fa := gm 141 rfl
theorem f_OTHER_LENGTH : He.Fa.int "OTHER_LENGTH" (13) ∈ fa := gm 142 rfl
theorem f_MOST_HANDS : He.Fa.int "MOST_HANDS" (4) ∈ fa := gm 143 rfl
theorem f_MOST_CARDS_reading : He.Fa.int "MOST_CARDS_reading" (4) ∈ fa := gm 144 rfl
theorem f_MOST_CARDS_OF_MANY : He.Fa.int "MOST_CARDS_OF_MANY" (3) ∈ fa := gm 145 rfl
theorem f_MOST_POINTS_reading : He.Fa.int "MOST_POINTS_reading" (50) ∈ fa := gm 146 rfl
theorem f_MOST_RANK_reading : He.Fa.int "MOST_RANK_reading" (13) ∈ fa := gm 147 rfl
theorem f_OUTSIDE : He.Fa.int "OUTSIDE" (-1) ∈ fa := gm 148 rfl
theorem f_NO_DEAL : He.Fa.int "NO_DEAL" (-2) ∈ fa := gm 149 rfl
theorem f_PARSE_ERROR : He.Fa.int "PARSE_ERROR" (-3) ∈ fa := gm 150 rfl
theorem f_NOT_LEGAL : He.Fa.int "NOT_LEGAL" (-4) ∈ fa := gm 151 rfl
theorem f_TRICK_STARTED : He.Fa.int "TRICK_STARTED" (-5) ∈ fa := gm 152 rfl
theorem f_LOAD_DEAL : He.Fa.int "LOAD_DEAL" (0) ∈ fa := gm 153 rfl
theorem f_CHECK_DEAL : He.Fa.int "CHECK_DEAL" (1) ∈ fa := gm 154 rfl
theorem f_SUITS : He.Fa.str "SUITS" "abcd" ∈ fa := gm 155 rfl
theorem fc_Sheet : He.Fa.cls "Sheet" ∈ fa := gm 156 rfl
theorem fm_Sheet : He.Fa.mkr "Sheet" ∈ fa := gm 157 rfl
theorem fn_Sheet_trump : He.Fa.noat "Sheet" "trump" ∈ fa := gm 158 rfl
theorem fn_Sheet_is_ruff : He.Fa.noat "Sheet" "is_ruff" ∈ fa := gm 159 rfl
theorem fn_Sheet_trick : He.Fa.noat "Sheet" "trick" ∈ fa := gm 160 rfl
theorem fn_Sheet_last : He.Fa.noat "Sheet" "last" ∈ fa := gm 161 rfl
theorem fn_Sheet_lead : He.Fa.noat "Sheet" "lead" ∈ fa := gm 162 rfl
theorem fn_Sheet_worths : He.Fa.noat "Sheet" "worths" ∈ fa := gm 163 rfl
theorem fn_Sheet_sides : He.Fa.noat "Sheet" "sides" ∈ fa := gm 164 rfl
theorem fn_Sheet_hands : He.Fa.noat "Sheet" "hands" ∈ fa := gm 165 rfl
theorem fc_Deal : He.Fa.cls "Deal" ∈ fa := gm 166 rfl
theorem fm_Deal : He.Fa.mkr "Deal" ∈ fa := gm 167 rfl
theorem fn_Deal_sheet : He.Fa.noat "Deal" "sheet" ∈ fa := gm 168 rfl
theorem fn_Deal_trump : He.Fa.noat "Deal" "trump" ∈ fa := gm 169 rfl
theorem fn_Deal_is_ruff : He.Fa.noat "Deal" "is_ruff" ∈ fa := gm 170 rfl
theorem fn_Deal_trick_points : He.Fa.noat "Deal" "trick_points" ∈ fa := gm 171 rfl
theorem fn_Deal_last_points : He.Fa.noat "Deal" "last_points" ∈ fa := gm 172 rfl
theorem fn_Deal_lead : He.Fa.noat "Deal" "lead" ∈ fa := gm 173 rfl
theorem fn_Deal_worths : He.Fa.noat "Deal" "worths" ∈ fa := gm 174 rfl
theorem fn_Deal_sides : He.Fa.noat "Deal" "sides" ∈ fa := gm 175 rfl
theorem fn_Deal_hands : He.Fa.noat "Deal" "hands" ∈ fa := gm 176 rfl
theorem fc_Position : He.Fa.cls "Position" ∈ fa := gm 177 rfl
theorem fm_Position : He.Fa.mkr "Position" ∈ fa := gm 178 rfl
theorem fn_Position_hands : He.Fa.noat "Position" "hands" ∈ fa := gm 179 rfl
theorem fn_Position_trick : He.Fa.noat "Position" "trick" ∈ fa := gm 180 rfl
theorem fn_Position_leader : He.Fa.noat "Position" "leader" ∈ fa := gm 181 rfl
theorem fn_Position_points : He.Fa.noat "Position" "points" ∈ fa := gm 182 rfl
theorem fc_Table : He.Fa.cls "Table" ∈ fa := gm 183 rfl
theorem fm_Table : He.Fa.mkr "Table" ∈ fa := gm 184 rfl
theorem fn_Table_deal : He.Fa.noat "Table" "deal" ∈ fa := gm 185 rfl
theorem fn_Table_played : He.Fa.noat "Table" "played" ∈ fa := gm 186 rfl
end Fd

namespace Fd
open PySem PySem.Spec PyProof.Rows L2
/-! ### each def keeps its promise -/
structure Ctx (K : PySem.W.Frag) (mg : Str → Option Value) : Prop where
  says : He.SaysD fa fn K
  ex : exB K = true
  gb : Gb fa K mg
def Ok (P : Program) (w : World) (K : PySem.W.Frag) (mg : Str → Option Value) (base : Heap) (k : Nat) (x : Str) (ps : List Str) (sp : Sp) : Prop :=
  ∃ fd, FnOk P w K mg base CX0 k (He.ga K x) fd ps sp ∧ Binds K fd ps [] ∧ PySem.W.keepIn K (.ref (He.ga K x)) = true ∧ mg x = some (.ref (He.ga K x))
def OkM (P : Program) (w : World) (K : PySem.W.Frag) (mg : Str → Option Value) (base : Heap) (k : Nat) (x : Str) (ps : List Str) (sp : Sp) : Prop :=
  ∃ fd, FnOk P w K mg base CX0 k (He.ma K (He.ga K x) "__init__") fd ps sp ∧ Binds K fd ps [] ∧ Mk K (He.ga K x) (He.ma K (He.ga K x) "__init__") ∧ mg x = some (.ref (He.ga K x))
section
variable {P : Program} {w : World} {K : PySem.W.Frag} {mg : Str → Option Value} {base : Heap} {k j : Nat} {x : Str} {N ps : List Str} {sp : Sp}
theorem Ok.cal (h : Ok P w K mg base k x ps sp) {X : Cx} (hr : Room j X.A) (hk : k ≤ j) (e1 : X.prog = P := by rfl) (e2 : X.w = w := by rfl) (e3 : X.K = K := by rfl) (e4 : X.mg = mg := by rfl) (e5 : X.base = base := by rfl) : Cal X x sp := by
  subst e1 e2 e3 e4 e5
  obtain ⟨fd, F, b, kp, m⟩ := h
  exact ⟨_, fd, ps, k, F, hr.mono hk, m, kp, b⟩
theorem OkM.mak (h : OkM P w K mg base k x ps sp) {X : Cx} (hr : Room j X.A) (hk : k + 1 ≤ j) (e1 : X.prog = P := by rfl) (e2 : X.w = w := by rfl) (e3 : X.K = K := by rfl) (e4 : X.mg = mg := by rfl) (e5 : X.base = base := by rfl) : Mak X x (He.ga K x) sp := by
  subst e1 e2 e3 e4 e5
  obtain ⟨fd, F, b, M, m⟩ := h
  exact ⟨_, fd, ps, k, M, F, hr.mono hk, m, b⟩
abbrev Xof (P : Program) (w : World) (K : PySem.W.Frag) (mg : Str → Option Value) (base : Heap) (N : List Str) (qual : Str) (sc : Scope) (f : Addr) (cdv : Value) (A : Around) (outer : List Env) (s : Shared) (H : Hp) (E : XK) : Cx :=
  (cxOf CX0 P w K mg base N qual sc f cdv A outer s H E).nox
/-- a body's derivation, wherever it runs with k rooms -/
def Dv (P : Program) (w : World) (K : PySem.W.Frag) (mg : Str → Option Value) (base : Heap) (k : Nat) (N : List Str) (qual : Str) (sc : Scope) (f : Addr) (body : List Stmt) (t : TS) : Prop :=
  ∀ (cdv : Value) (A : Around) (outer : List Env) (s : Shared) (H : Hp) (E : XK), Room k (Xof P w K mg base N qual sc f cdv A outer s H E).A → On fa (Xof P w K mg base N qual sc f cdv A outer s H E) N sc → PSs (Xof P w K mg base N qual sc f cdv A outer s H E) body t
theorem ok_gen (C : Ctx K mg) {st : Stmt} {d : He.DefD} (i : Nat) (hi : fn[i]? = some d) (hd : d = ⟨(x, none), x, x, defArgs st, defBody st, defScope st, [], []⟩) (S : FnScope N ps (defScope st)) (hg : He.Fa.glo x ∈ fa) {t : TS} (dv : Dv P w K mg base k N x (defScope st) (He.ga K x) (defBody st) t)
    (hb : ∀ (kV doc pm : Value) (an : Option Addr) (cdv ct : Value) (us : List Value), us.length = ps.length → bindArgs (PySem.W.fnOf x x (defArgs st) (defBody st) (defScope st) .none kV doc pm an cdv ct) ⟨us, []⟩ = pure (ps.zip us))
    (len : ∀ vs H Q E, sp vs H Q E → vs.length = ps.length) (rd : ∀ vs H Q E, sp vs H Q E → t { nx := fun _ H' => Q .non H', rt := Q } (L2.start N vs) H) : Ok P w K mg base (k + 1) x ps sp := by
  subst hd
  obtain ⟨fd, F⟩ := C.says.def_ i hi
  refine ⟨fd, F.ok S len fun cdv A outer s H vs Q E hr h => ⟨t, PSs.nox (dv cdv A outer s H E hr ⟨rfl, rfl, rfl, S.nd, PassesOwn.never, C.gb, hr.units⟩), rd vs H Q E h⟩, FunD.bindsN F hb, F.kp, C.gb.glo hg⟩
theorem okM_gen (C : Ctx K mg) {st : Stmt} {d : He.DefD} {qual : Str} (i : Nat) (hi : fn[i]? = some d) (hd : d = ⟨(x, some "__init__"), "__init__", qual, defArgs st, defBody st, defScope st, [], []⟩) (S : FnScope N ps (defScope st)) (hg : He.Fa.glo x ∈ fa) (hm : He.Fa.mkr x ∈ fa) {t : TS} (dv : Dv P w K mg base k N qual (defScope st) (He.ma K (He.ga K x) "__init__") (defBody st) t)
    (hb : ∀ (kV doc pm : Value) (an : Option Addr) (cdv ct : Value) (us : List Value), us.length = ps.length → bindArgs (PySem.W.fnOf "__init__" qual (defArgs st) (defBody st) (defScope st) .none kV doc pm an cdv ct) ⟨us, []⟩ = pure (ps.zip us))
    (len : ∀ vs H Q E, sp vs H Q E → vs.length = ps.length) (rd : ∀ vs H Q E, sp vs H Q E → t { nx := fun _ H' => Q .non H', rt := Q } (L2.start N vs) H) : OkM P w K mg base (k + 1) x ps sp := by
  subst hd
  obtain ⟨fd, F⟩ := C.says.def_ i hi
  refine ⟨fd, F.ok S len fun cdv A outer s H vs Q E hr h => ⟨t, PSs.nox (dv cdv A outer s H E hr ⟨rfl, rfl, rfl, S.nd, PassesOwn.never, C.gb, hr.units⟩), rd vs H Q E h⟩, FunD.bindsN F hb, He.mkr_ok (C.gb.fact _ hm), C.gb.glo hg⟩
theorem Ctx.cls (C : Ctx K mg) (h : He.Fa.cls x ∈ fa) : Cls K (He.ga K x) := He.cls_ok (C.gb.fact _ h)
theorem Ctx.noat (C : Ctx K mg) {f : Str} (h : He.Fa.noat x f ∈ fa) : NoAttr K (He.ga K x) f := He.noat_ok (C.gb.fact _ h)
end
end Fd

/-! # Pl: the plain law, no program in sight: play -/
namespace Fd
open Vbndao

def CardOk (c : Nat) : Prop := 1 ≤ c % 16 ∧ c % 16 ≤ 13 ∧ c / 16 ≤ 3
theorem sumL : ∀ (l : List Nat) (a : Nat), l.foldl (fun a b => a + b) a = a + l.sum
  | [], a => by simp
  | x :: r, a => by rw [List.foldl_cons, sumL r, List.sum_cons]; omega
theorem sum0 (l : List Nat) : l.foldl (fun a b => a + b) 0 = l.sum := by rw [sumL]; omega

structure Good (x : Deal) (p : Position) : Prop where
  n2 : 2 ≤ x.seats.length
  n4 : x.seats.length ≤ 4
  side : ∀ s ∈ x.seats, s.side ≤ 1
  hands : p.hands.length = x.seats.length
  lead : p.leader < x.seats.length
  trick : p.trick.length < x.seats.length
  card : ∀ c ∈ p.trick ++ p.hands.flatten, CardOk c
  nd : (p.trick ++ p.hands.flatten).Nodup
  sizes : ∃ m, m ≤ 4 ∧ (x.seats.length = 2 ∨ m ≤ 3) ∧ (p.trick.length = 0 ∨ 1 ≤ m) ∧ ∀ i, i < x.seats.length → (p.hands.getD ((p.leader + i) % x.seats.length) []).length + (if i < p.trick.length then 1 else 0) = m
section
variable {x : Deal} {p : Position} {c d : Nat}
theorem ptm_eq (g : Good x p) : playerToMove x p = (p.leader + p.trick.length) % x.seats.length := by
  have := g.n2
  unfold playerToMove playerCount
  rw [Nat.max_eq_right (by omega)]
theorem ptm_lt (g : Good x p) : playerToMove x p < x.seats.length := by
  rw [ptm_eq g]
  exact Nat.mod_lt _ (by have := g.n2; omega)
theorem hand_get (g : Good x p) : p.hands[playerToMove x p]? = some (handOf p (playerToMove x p)) := by
  have h := ptm_lt g
  rw [← g.hands] at h
  unfold handOf
  rw [List.getElem?_eq_getElem h, List.getD_eq_getElem?_getD, List.getElem?_eq_getElem h] <;> rfl
theorem hand_mem (g : Good x p) : handOf p (playerToMove x p) ∈ p.hands := List.mem_of_getElem? (hand_get g)
theorem legal_sub (h : c ∈ legalCards x p) : c ∈ handOf p (playerToMove x p) := by
  unfold legalCards at h
  split at h
  · exact h
  · dsimp only at h
    split at h
    · exact (List.mem_filter.mp h).1
    · split at h
      · exact (List.mem_filter.mp h).1
      · exact h
theorem legal_ne (h : handOf p (playerToMove x p) ≠ []) : legalCards x p ≠ [] := by
  unfold legalCards
  split
  · exact h
  · dsimp only
    split
    · intro e; simp_all
    · split
      · intro e; simp_all
      · exact h
/-- sum of the hands' lengths by the seats from the leader on -/
theorem sum_rot {n : Nat} (hn : 0 < n) (f : Nat → Nat) (a : Nat) (ha : a < n) : ((List.range n).map fun i => f ((a + i) % n)).sum = ((List.range n).map f).sum := by
  have e1 : (List.range n).map (fun i => f ((a + i) % n)) = (List.range (n - a)).map (fun i => f (a + i)) ++ (List.range a).map f := by
    have : n = (n - a) + a := by omega
    conv => lhs; rw [this, List.range_add, List.map_append, List.map_map]
    congr 1
    · apply List.map_congr_left
      intro i hi
      have := List.mem_range.mp hi
      rw [show n - a + a = n by omega, Nat.mod_eq_of_lt (by omega)]
    · apply List.map_congr_left
      intro i hi
      have := List.mem_range.mp hi
      show f ((a + (n - a + i)) % (n - a + a)) = f i
      rw [show n - a + a = n by omega, show a + (n - a + i) = n + i by omega, Nat.add_mod_left, Nat.mod_eq_of_lt (by omega)]
  have e2 : (List.range n).map f = (List.range a).map f ++ (List.range (n - a)).map (fun i => f (a + i)) := by
    have : n = a + (n - a) := by omega
    conv => lhs; rw [this, List.range_add, List.map_append, List.map_map]
    rfl
  rw [e1, e2, List.sum_append, List.sum_append]
  omega
theorem map_range_getD (l : List (List Nat)) : (List.range l.length).map (fun i => (l.getD i []).length) = l.map (·.length) := by
  apply List.ext_getElem?
  intro i
  rw [List.getElem?_map, List.getElem?_map]
  by_cases h : i < l.length
  · rw [List.getElem?_range h, List.getElem?_eq_getElem h]
    simp [List.getD_eq_getElem?_getD, List.getElem?_eq_getElem h]
  · rw [List.getElem?_eq_none (by simpa using h), List.getElem?_eq_none (by omega)]
    rfl
theorem sum_lt_const {n t m : Nat} (ht : t ≤ n) (g : Nat → Nat) (h : ∀ i, i < n → g i + (if i < t then 1 else 0) = m) : ((List.range n).map g).sum + t = n * m := by
  induction n generalizing t with
  | zero => simp; omega
  | succ n ih =>
    rw [List.range_succ, List.map_append, List.sum_append]
    have hn := h n (by omega)
    by_cases e : t = n + 1
    · subst e
      have := ih (t := n) (Nat.le_refl _) (fun i hi => by have := h i (by omega); rw [if_pos (by omega)] at this ⊢; exact this)
      rw [if_pos (by omega)] at hn
      simp only [List.map_cons, List.map_nil, List.sum_cons, List.sum_nil]
      rw [Nat.succ_mul]
      omega
    · have := ih (t := t) (by omega) (fun i hi => h i (by omega))
      rw [if_neg (by omega)] at hn
      simp only [List.map_cons, List.map_nil, List.sum_cons, List.sum_nil]
      rw [Nat.succ_mul]
      omega
theorem left_eq (p : Position) : cardsToPlay p = (p.hands.map (·.length)).sum := sum0 _
theorem all_empty : ∀ l : List (List Nat), (l.all fun h => h.isEmpty) = decide ((l.map (·.length)).sum = 0)
  | [] => rfl
  | a :: r => by
    rw [List.all_cons, all_empty r, List.map_cons, List.sum_cons]
    cases a with
    | nil => simp
    | cons z l =>
      simp
theorem over_eq (p : Position) : isOver p = (p.trick.isEmpty && decide (cardsToPlay p = 0)) := by
  unfold isOver
  congr 1
  rw [left_eq]
  exact all_empty _
/-- all cards left and those of the trick: n times the size -/
theorem sizes_sum (g : Good x p) : ∃ m, m ≤ 4 ∧ (x.seats.length = 2 ∨ m ≤ 3) ∧ (p.trick.length = 0 ∨ 1 ≤ m) ∧ cardsToPlay p + p.trick.length = x.seats.length * m ∧
    ∀ i, i < x.seats.length → (p.hands.getD ((p.leader + i) % x.seats.length) []).length + (if i < p.trick.length then 1 else 0) = m := by
  obtain ⟨m, h1, h2, h3, h4⟩ := g.sizes
  refine ⟨m, h1, h2, h3, ?_, h4⟩
  have k := sum_lt_const (Nat.le_of_lt g.trick) (fun i => (p.hands.getD ((p.leader + i) % x.seats.length) []).length) h4
  rw [sum_rot (by have := g.n2; omega) (fun i => (p.hands.getD i []).length) p.leader g.lead] at k
  rw [left_eq, ← map_range_getD, g.hands]
  exact k
theorem hand_len (g : Good x p) {m : Nat} (h : ∀ i, i < x.seats.length → (p.hands.getD ((p.leader + i) % x.seats.length) []).length + (if i < p.trick.length then 1 else 0) = m) : (handOf p (playerToMove x p)).length = m := by
  have k := h p.trick.length g.trick
  rw [if_neg (by omega), ← ptm_eq g] at k
  exact k
/-- the hand to move is not empty unless the game is over -/
theorem hand_ne (g : Good x p) (h : isOver p = false) : handOf p (playerToMove x p) ≠ [] := by
  obtain ⟨m, h1, h2, h3, h4, h5⟩ := sizes_sum g
  intro e
  have k := hand_len g h5
  rw [e] at k
  have k : m = 0 := k.symm
  subst k
  rw [over_eq] at h
  have : p.trick.length = 0 := by omega
  have hl : p.trick = [] := List.length_eq_zero_iff.mp this
  rw [hl] at h
  simp at h
  omega
theorem left_over (g : Good x p) : isOver p = true ↔ cardsToPlay p = 0 := by
  rw [over_eq]
  constructor
  · intro h
    simp at h
    exact h.2
  · intro h
    obtain ⟨m, h1, h2, h3, h4, h5⟩ := sizes_sum g
    have hn := g.n2
    have ht := g.trick
    have : m = 0 := by
      rcases Nat.eq_zero_or_pos m with e | e
      · exact e
      · have : x.seats.length * 1 ≤ x.seats.length * m := Nat.mul_le_mul_left _ e
        omega
    subst this
    have : p.trick.length = 0 := by omega
    rw [List.length_eq_zero_iff.mp this, h]
    rfl
theorem left_le (g : Good x p) : cardsToPlay p ≤ 12 := by
  obtain ⟨m, h1, h2, h3, h4, h5⟩ := sizes_sum g
  have := g.n4
  have : x.seats.length * m ≤ 12 := by
    rcases h2 with e | e
    · rw [e]; omega
    · exact Nat.le_trans (Nat.mul_le_mul g.n4 e) (by decide)
  omega
end
end Fd

/-! # a card is played -/
namespace Fd
open Vbndao
section
variable {x : Deal} {p : Position} {c d : Nat}
theorem zip_set {α : Type} (l : List α) (i : Nat) (f : α → α) : (l.zipIdx.map fun y => if y.2 = i then f y.1 else y.1) = (match l[i]? with | some h => l.set i (f h) | none => l) := by
  apply List.ext_getElem?
  intro j
  rw [List.getElem?_map, List.getElem?_zipIdx]
  cases hi : l[i]? with
  | none =>
    show _ = l[j]?
    cases hj : l[j]? with
    | none => rfl
    | some z =>
      have e : j ≠ i := fun e => by rw [e, hi] at hj; cases hj
      simp [e]
  | some h =>
    show _ = (l.set i (f h))[j]?
    rw [List.getElem?_set]
    by_cases e : i = j
    · subst e
      obtain ⟨hlt, e2⟩ := List.getElem?_eq_some_iff.mp hi
      simp [hi, hlt, e2]
    · rw [if_neg e]
      cases hj : l[j]? with
      | none => rfl
      | some z =>
        simp [Ne.symm e]
/-- the hands behind a card -/
def handsAfter (x : Deal) (p : Position) (c : Nat) : List (List Nat) := p.hands.set (playerToMove x p) (removeCard (handOf p (playerToMove x p)) c)
theorem hands_after (g : Good x p) : (p.hands.zipIdx.map fun y => if y.2 = playerToMove x p then removeCard y.1 c else y.1) = handsAfter x p c := by
  have h := zip_set p.hands (playerToMove x p) (fun h => removeCard h c)
  rw [hand_get g] at h
  exact h
theorem flat_nd (g : Good x p) : p.hands.flatten.Nodup := (List.nodup_append.mp g.nd).2.1
/-- two hands share no card -/
theorem apart (g : Good x p) {i j : Nat} {h h' : List Nat} (hi : p.hands[i]? = some h) (hj : p.hands[j]? = some h') (ne : i ≠ j) (hc : c ∈ h) : c ∉ h' := by
  intro hc'
  have nd := flat_nd g
  have pw := (List.pairwise_flatten.mp nd).2
  rw [List.pairwise_iff_getElem] at pw
  obtain ⟨li, ei⟩ := List.getElem?_eq_some_iff.mp hi
  obtain ⟨lj, ej⟩ := List.getElem?_eq_some_iff.mp hj
  rcases Nat.lt_or_gt_of_ne ne with l | l
  · exact pw i j li lj l c (by rw [ei]; exact hc) c (by rw [ej]; exact hc') rfl
  · exact pw j i lj li l c (by rw [ej]; exact hc') c (by rw [ei]; exact hc) rfl
theorem filter_ne_self {l : List Nat} (h : c ∉ l) : l.filter (fun d => d != c) = l := List.filter_eq_self.mpr fun a ha => by
  have : a ≠ c := fun e => h (e ▸ ha)
  simp [this]
/-- the program takes the card out of every hand: it is in one alone -/
theorem hands_all (g : Good x p) (hc : c ∈ handOf p (playerToMove x p)) : p.hands.map (fun h => h.filter fun d => d != c) = handsAfter x p c := by
  apply List.ext_getElem?
  intro j
  unfold handsAfter
  rw [List.getElem?_map, List.getElem?_set]
  have hg := hand_get g
  by_cases e : playerToMove x p = j
  · subst e
    have hlt := (List.getElem?_eq_some_iff.mp hg).1
    rw [if_pos rfl, if_pos hlt, hg]
    rfl
  · rw [if_neg e]
    cases hj : p.hands[j]? with
    | none => rfl
    | some h =>
      exact congrArg some (filter_ne_self (apart g hg hj e hc))
theorem split_at {l : List (List Nat)} {i : Nat} {h : List Nat} (hi : l[i]? = some h) : ∃ A B, l = A ++ h :: B ∧ A.length = i := by
  obtain ⟨hlt, e⟩ := List.getElem?_eq_some_iff.mp hi
  refine ⟨l.take i, l.drop (i + 1), ?_, by rw [List.length_take]; omega⟩
  rw [← e, ← List.drop_eq_getElem_cons hlt, List.take_append_drop]
theorem set_mid {A B : List (List Nat)} {h k : List Nat} : (A ++ h :: B).set A.length k = A ++ k :: B := by
  rw [List.set_append_right _ _ (Nat.le_refl _), Nat.sub_self]
  rfl
theorem perm_rem {l : List Nat} (nd : l.Nodup) (h : c ∈ l) : List.Perm l (c :: removeCard l c) := by
  have e : removeCard l c = l.erase c := by
    unfold removeCard
    rw [nd.erase_eq_filter]
  rw [e]
  exact List.perm_cons_erase h
/-- the cards stay the same cards -/
theorem perm_after (g : Good x p) (hc : c ∈ handOf p (playerToMove x p)) : List.Perm (p.trick ++ p.hands.flatten) ((p.trick ++ [c]) ++ (handsAfter x p c).flatten) := by
  obtain ⟨A, B, e, el⟩ := split_at (hand_get g)
  have nd := flat_nd g
  unfold handsAfter
  generalize handOf p (playerToMove x p) = h at e hc ⊢
  rw [← el, e, set_mid]
  rw [e] at nd
  simp only [List.flatten_append, List.flatten_cons] at nd ⊢
  have ndh : h.Nodup := (List.nodup_append.mp (List.nodup_append.mp nd).2.1).1
  have p1 := perm_rem ndh hc
  rw [List.append_assoc]
  refine List.Perm.append_left _ ?_
  refine (List.Perm.append_left _ (p1.append_right _)).trans ?_
  exact List.perm_middle
/-- the winner and the score of a full trick, as the specification has them -/
def fullAfter (x : Deal) (p : Position) (c : Nat) : Position :=
  { hands := handsAfter x p c, leader := (p.leader + winnerIndex x (p.trick ++ [c])) % x.seats.length, trick := [],
    scores := addScore x ((p.leader + winnerIndex x (p.trick ++ [c])) % x.seats.length) (trickValueOf x + ((p.trick ++ [c]).map (cardValue x)).sum + (if (handsAfter x p c).all (fun h => h.isEmpty) = true then lastTrickBonusOf x else 0)) p.scores }
theorem play_eq (g : Good x p) : playCard x p c = if p.trick.length + 1 < x.seats.length then { p with hands := handsAfter x p c, trick := p.trick ++ [c] } else fullAfter x p c := by
  unfold playCard
  dsimp only
  have hn := g.n2
  rw [hands_after g, show max 1 (playerCount x) = x.seats.length by unfold playerCount; omega, List.length_append]
  show (if p.trick.length + 1 < x.seats.length then _ else _) = _
  by_cases h : p.trick.length + 1 < x.seats.length
  · rw [if_pos h, if_pos h]
  · rw [if_neg h, if_neg h, sum0]
    rfl
theorem after_len : (handsAfter x p c).length = p.hands.length := by unfold handsAfter; rw [List.length_set]
theorem rem_len {l : List Nat} (nd : l.Nodup) (h : c ∈ l) : (removeCard l c).length + 1 = l.length := by
  have := (perm_rem nd h).length_eq
  rw [List.length_cons] at this
  omega
theorem hand_nd (g : Good x p) : (handOf p (playerToMove x p)).Nodup := by
  exact (List.pairwise_flatten.mp (flat_nd g)).1 _ (hand_mem g)
theorem after_getD (g : Good x p) (j : Nat) : (handsAfter x p c).getD j [] = if playerToMove x p = j then removeCard (handOf p (playerToMove x p)) c else p.hands.getD j [] := by
  unfold handsAfter
  rw [List.getD_eq_getElem?_getD, List.getD_eq_getElem?_getD, List.getElem?_set]
  have hlt : playerToMove x p < p.hands.length := by rw [g.hands]; exact ptm_lt g
  by_cases e : playerToMove x p = j
  · rw [if_pos e, if_pos e, if_pos hlt]
    rfl
  · rw [if_neg e, if_neg e]
theorem rot_inj {n a i j : Nat} (ha : a < n) (hi : i < n) (hj : j < n) (h : (a + i) % n = (a + j) % n) : i = j := by
  rcases Nat.lt_or_ge (a + i) n with h1 | h1 <;> rcases Nat.lt_or_ge (a + j) n with h2 | h2
  · rw [Nat.mod_eq_of_lt h1, Nat.mod_eq_of_lt h2] at h; omega
  · rw [Nat.mod_eq_of_lt h1, Nat.mod_eq_sub_mod h2, Nat.mod_eq_of_lt (by omega)] at h; omega
  · rw [Nat.mod_eq_of_lt h2, Nat.mod_eq_sub_mod h1, Nat.mod_eq_of_lt (by omega)] at h; omega
  · rw [Nat.mod_eq_sub_mod h1, Nat.mod_eq_sub_mod h2, Nat.mod_eq_of_lt (by omega), Nat.mod_eq_of_lt (by omega)] at h; omega
theorem rot_onto {n a j : Nat} (ha : a < n) (hj : j < n) : ∃ i, i < n ∧ (a + i) % n = j := by
  by_cases h : a ≤ j
  · exact ⟨j - a, by omega, by rw [Nat.mod_eq_of_lt (by omega)]; omega⟩
  · exact ⟨n + j - a, by omega, by rw [show a + (n + j - a) = n + j by omega, Nat.add_mod_left, Nat.mod_eq_of_lt hj]⟩
theorem card_after (g : Good x p) (hc : c ∈ handOf p (playerToMove x p)) : (∀ e ∈ (p.trick ++ [c]) ++ (handsAfter x p c).flatten, CardOk e) ∧ ((p.trick ++ [c]) ++ (handsAfter x p c).flatten).Nodup := by
  have pm := perm_after g hc
  exact ⟨fun e he => g.card e (pm.symm.subset he), (pm.nodup_iff).mp g.nd⟩
theorem good_play (g : Good x p) (hc : c ∈ handOf p (playerToMove x p)) : Good x (playCard x p c) := by
  obtain ⟨m, h1, h2, h3, h4⟩ := g.sizes
  have hn := g.n2
  obtain ⟨hcard, hnd⟩ := card_after g hc
  have hl := hand_len g h4
  have hr := rem_len (hand_nd g) hc
  have ht := g.trick
  have hpos : 1 ≤ m := by omega
  have sz : ∀ i, i < x.seats.length → ((handsAfter x p c).getD ((p.leader + i) % x.seats.length) []).length + (if i < p.trick.length + 1 then 1 else 0) = m := fun i hi => by
    rw [after_getD g]
    by_cases e : playerToMove x p = (p.leader + i) % x.seats.length
    · have ei : i = p.trick.length := by
        rw [ptm_eq g] at e
        exact (rot_inj g.lead ht hi e).symm
      rw [if_pos e, if_pos (by omega)]
      omega
    · have ei : i ≠ p.trick.length := fun e2 => e (by rw [ptm_eq g, e2])
      rw [if_neg e]
      have k := h4 i hi
      by_cases hlt : i < p.trick.length
      · rw [if_pos hlt] at k; rw [if_pos (by omega)]; exact k
      · rw [if_neg hlt] at k; rw [if_neg (by omega)]; exact k
  rw [play_eq g]
  by_cases h : p.trick.length + 1 < x.seats.length
  · rw [if_pos h]
    exact ⟨g.n2, g.n4, g.side, by show (handsAfter x p c).length = _; rw [after_len]; exact g.hands, g.lead, by show (p.trick ++ [c]).length < _; rw [List.length_append]; exact h, hcard, hnd, m, h1, h2, .inr hpos, fun i hi => by
      show ((handsAfter x p c).getD _ _).length + (if i < (p.trick ++ [c]).length then 1 else 0) = m
      rw [List.length_append]
      exact sz i hi⟩
  · rw [if_neg h]
    have hmod : (p.leader + winnerIndex x (p.trick ++ [c])) % x.seats.length < x.seats.length := Nat.mod_lt _ (by omega)
    refine ⟨g.n2, g.n4, g.side, by show (handsAfter x p c).length = _; rw [after_len]; exact g.hands, hmod, by show 0 < _; omega, fun e he => hcard e (List.mem_append_right _ he), ?_, m - 1, by omega, by omega, .inl rfl, fun i hi => ?_⟩
    · exact (List.nodup_append.mp hnd).2.1
    · show ((handsAfter x p c).getD (((p.leader + winnerIndex x (p.trick ++ [c])) % x.seats.length + i) % x.seats.length) []).length + (if i < 0 then 1 else 0) = m - 1
      have hj : ((p.leader + winnerIndex x (p.trick ++ [c])) % x.seats.length + i) % x.seats.length < x.seats.length := Nat.mod_lt _ (by omega)
      obtain ⟨k, hk, ek⟩ := rot_onto g.lead hj
      rw [← ek]
      have q := sz k hk
      rw [if_pos (by omega)] at q
      rw [if_neg (by omega)]
      omega
theorem left_play (g : Good x p) (hc : c ∈ handOf p (playerToMove x p)) : cardsToPlay (playCard x p c) + 1 = cardsToPlay p := by
  have e : cardsToPlay (playCard x p c) = ((handsAfter x p c).map (·.length)).sum := by
    rw [left_eq, play_eq g]
    by_cases h : p.trick.length + 1 < x.seats.length
    · rw [if_pos h]
    · rw [if_neg h]
      rfl
  have q := (perm_after g hc).length_eq
  rw [e, left_eq]
  simp only [List.length_append, List.length_flatten, List.length_cons, List.length_nil] at q
  have q2 : (List.map List.length (handsAfter x p c)).sum + 1 = (List.map List.length p.hands).sum := by omega
  exact q2
theorem good_legal (g : Good x p) (hc : c ∈ legalCards x p) : Good x (playCard x p c) := good_play g (legal_sub hc)
theorem left_legal (g : Good x p) (hc : c ∈ legalCards x p) : cardsToPlay (playCard x p c) + 1 = cardsToPlay p := left_play g (legal_sub hc)
end
end Fd

/-! # who wins; the best of a list; the full search -/
namespace Fd
open Vbndao
section
variable {x : Deal} {p : Position} {c d : Nat}
def strength (x : Deal) (c s : Nat) : Nat := if x.trump = some (c / 16) then 16 + c % 16 else if c / 16 = s then c % 16 else 0
theorem beats_is {c b s : Nat} (hc : CardOk c) (hb : CardOk b) (hs : 1 ≤ strength x b s) : beats x c b = decide (strength x b s < strength x c s) := by
  obtain ⟨c1, c2, c3⟩ := hc
  obtain ⟨b1, b2, b3⟩ := hb
  unfold beats suitOf rankOf
  unfold strength at hs ⊢
  by_cases e : c / 16 = b / 16
  · rw [if_pos e, e]
    by_cases t : x.trump = some (b / 16)
    · rw [if_pos t, if_pos t]
      exact decide_eq_decide.mpr (by omega)
    · rw [if_neg t] at hs ⊢
      rw [if_neg t]
      by_cases q : b / 16 = s
      · rw [if_pos q, if_pos q]
      · rw [if_neg q] at hs; omega
  · rw [if_neg e]
    by_cases t : x.trump = some (c / 16)
    · have tb : ¬ x.trump = some (b / 16) := fun h => e (Option.some.inj (t.symm.trans h))
      rw [if_neg tb, if_pos t, t]
      rw [beq_self_eq_true]
      refine (decide_eq_true ?_).symm
      split <;> omega
    · rw [if_neg t]
      have : (x.trump == some (c / 16)) = false := beq_eq_false_iff_ne.mpr t
      rw [this]
      refine (decide_eq_false ?_).symm
      by_cases tb : x.trump = some (b / 16)
      · rw [if_pos tb]
        split <;> omega
      · rw [if_neg tb] at hs ⊢
        by_cases q : b / 16 = s
        · rw [if_pos q, if_neg (by omega)]; omega
        · rw [if_neg q] at hs; omega
theorem strength_inj {c b s : Nat} (hc : CardOk c) (hb : CardOk b) (hs : 1 ≤ strength x b s) (e : strength x c s = strength x b s) : c = b := by
  obtain ⟨c1, c2, c3⟩ := hc
  obtain ⟨b1, b2, b3⟩ := hb
  unfold strength at hs e
  have key : c / 16 = b / 16 ∧ c % 16 = b % 16 := by
    by_cases t : x.trump = some (c / 16)
    · rw [if_pos t] at e
      by_cases tb : x.trump = some (b / 16)
      · rw [if_pos tb] at e
        exact ⟨Option.some.inj (t.symm.trans tb), by omega⟩
      · rw [if_neg tb] at e
        split at e <;> omega
    · rw [if_neg t] at e
      by_cases tb : x.trump = some (b / 16)
      · rw [if_pos tb] at e
        split at e <;> omega
      · rw [if_neg tb] at e hs
        by_cases q : b / 16 = s
        · rw [if_pos q] at e
          by_cases q2 : c / 16 = s
          · rw [if_pos q2] at e; omega
          · rw [if_neg q2] at e; omega
        · rw [if_neg q] at hs; omega
  omega
theorem strength_lead {c : Nat} (hc : CardOk c) : 1 ≤ strength x c (c / 16) := by
  obtain ⟨c1, _⟩ := hc
  unfold strength
  split
  · omega
  · rw [if_pos rfl]; exact c1
/-- from a best card so far to the best of all -/
theorem winner_from {s : Nat} : ∀ (l pre : List Nat) (b : Nat) (top : Nat), (∀ e ∈ pre ++ l, CardOk e) → (pre ++ l).Nodup → pre[b]? = some top → 1 ≤ strength x top s → (∀ (i : Nat) e, pre[i]? = some e → i ≠ b → strength x e s < strength x top s) →
    ∃ w, (pre ++ l)[winnerFrom x pre.length b top l]? = some w ∧ 1 ≤ strength x w s ∧ ∀ (i : Nat) e, (pre ++ l)[i]? = some e → i ≠ winnerFrom x pre.length b top l → strength x e s < strength x w s
  | [], pre, b, top, _, _, hb, h1, hl => by
    rw [List.append_nil]
    exact ⟨top, hb, h1, hl⟩
  | c :: l, pre, b, top, hok, hnd, hb, h1, hl => by
    have hc : CardOk c := hok c (by simp)
    have hmem : top ∈ pre := List.mem_of_getElem? hb
    have ht : CardOk top := hok top (List.mem_append_left _ hmem)
    have hne : c ≠ top := by
      intro e
      exact (List.nodup_append.mp hnd).2.2 top hmem c List.mem_cons_self e.symm
    have e1 : pre ++ c :: l = (pre ++ [c]) ++ l := by simp
    have e2 : (pre ++ [c]).length = pre.length + 1 := by simp
    have hbl := (List.getElem?_eq_some_iff.mp hb).1
    unfold winnerFrom
    rw [beats_is hc ht h1]
    by_cases q : strength x top s < strength x c s
    · rw [if_pos (decide_eq_true q), e1, ← e2]
      refine winner_from l (pre ++ [c]) pre.length c (by rw [← e1]; exact hok) (by rw [← e1]; exact hnd) (by simp) (by omega) fun i e he hi => ?_
      by_cases hi2 : i < pre.length
      · rw [List.getElem?_append_left hi2] at he
        by_cases hib : i = b
        · subst hib
          rw [hb] at he
          cases he
          exact q
        · have := hl i e he hib
          omega
      · have hi3 := (List.getElem?_eq_some_iff.mp he).1
        rw [e2] at hi3
        omega
    · rw [if_neg (by rw [decide_eq_true_eq]; exact q), e1, ← e2]
      refine winner_from l (pre ++ [c]) b top (by rw [← e1]; exact hok) (by rw [← e1]; exact hnd) (by rw [List.getElem?_append_left hbl]; exact hb) h1 fun i e he hi => ?_
      by_cases hi2 : i < pre.length
      · rw [List.getElem?_append_left hi2] at he
        exact hl i e he hi
      · have hi3 := (List.getElem?_eq_some_iff.mp he).1
        rw [e2] at hi3
        have hi4 : i = pre.length := by omega
        subst hi4
        simp at he
        subst he
        rcases Nat.lt_or_ge (strength x c s) (strength x top s) with z | z
        · exact z
        · exact absurd (strength_inj hc ht h1 (by omega)) hne
/-- the winner's place is the one of the greatest strength, the greatest stands there alone -/
theorem winner_is {t : List Nat} {c0 : Nat} {r : List Nat} (e : t = c0 :: r) (hok : ∀ e ∈ t, CardOk e) (hnd : t.Nodup) : ∃ w, t[winnerIndex x t]? = some w ∧ ∀ (i : Nat) e, t[i]? = some e → i ≠ winnerIndex x t → strength x e (c0 / 16) < strength x w (c0 / 16) := by
  subst e
  obtain ⟨w, h1, h2, h3⟩ := winner_from (x := x) (s := c0 / 16) r [c0] 0 c0 hok hnd rfl (strength_lead (hok c0 List.mem_cons_self)) (fun i e he hi => by
    cases i with
    | zero => exact absurd rfl hi
    | succ i => simp at he)
  exact ⟨w, h1, h3⟩

/-! ### the best of a list -/
def pick (side : Nat) : List Nat → Nat
  | [] => 0
  | a :: r => r.foldl (betterFor side) a
def Best (side : Nat) (l : List Nat) (m : Nat) : Prop := m ∈ l ∧ ∀ y ∈ l, if side = 0 then y ≤ m else m ≤ y
theorem fold_best (side : Nat) : ∀ (r : List Nat) (a : Nat), Best side (a :: r) (r.foldl (betterFor side) a)
  | [], a => ⟨List.mem_cons_self, fun y hy => by
    rw [List.mem_singleton] at hy
    subst hy
    split <;> exact Nat.le_refl _⟩
  | b :: r, a => by
    rw [List.foldl_cons]
    obtain ⟨h1, h2⟩ := fold_best side r (betterFor side a b)
    have hb : betterFor side a b = a ∨ betterFor side a b = b := by
      unfold betterFor
      split <;> omega
    refine ⟨?_, fun y hy => ?_⟩
    · rcases List.mem_cons.mp h1 with e | e
      · rw [e]
        rcases hb with e2 | e2 <;> rw [e2] <;> simp
      · exact List.mem_cons_of_mem _ (List.mem_cons_of_mem _ e)
    · have k := h2 (betterFor side a b) List.mem_cons_self
      have key : ∀ z, (z = a ∨ z = b) → if side = 0 then z ≤ (r.foldl (betterFor side) (betterFor side a b)) else (r.foldl (betterFor side) (betterFor side a b)) ≤ z := by
        intro z hz
        unfold betterFor at k ⊢
        by_cases s : side = 0
        · simp only [if_pos s] at k ⊢
          rcases hz with e | e <;> subst e <;> omega
        · simp only [if_neg s] at k ⊢
          rcases hz with e | e <;> subst e <;> omega
      rcases List.mem_cons.mp hy with e | hy
      · exact key y (.inl e)
      · rcases List.mem_cons.mp hy with e | hy
        · exact key y (.inr e)
        · exact h2 y (List.mem_cons_of_mem _ hy)
theorem pick_best {side : Nat} {l : List Nat} (h : l ≠ []) : Best side l (pick side l) := by
  cases l with
  | nil => exact absurd rfl h
  | cons a r => exact fold_best side r a
theorem best_one {side : Nat} {l k : List Nat} {m m' : Nat} (h : Best side l m) (h' : Best side k m') (a : ∀ y ∈ l, y ∈ k) (b : ∀ y ∈ k, y ∈ l) : m = m' := by
  have h1 := h.2 m' (b _ h'.1)
  have h2 := h'.2 m (a _ h.1)
  split at h1
  · rw [if_pos (by assumption)] at h2; omega
  · rw [if_neg (by assumption)] at h2; omega
theorem pick_same {side : Nat} {l k : List Nat} (h : l ≠ []) (a : ∀ y ∈ l, y ∈ k) (b : ∀ y ∈ k, y ∈ l) : pick side l = pick side k := by
  have hk : k ≠ [] := by
    cases l with
    | nil => exact absurd rfl h
    | cons z r => intro e; have := a z List.mem_cons_self; rw [e] at this; cases this
  exact best_one (pick_best h) (pick_best hk) a b

/-! ### the full search -/
def sideTo (x : Deal) (p : Position) : Nat := sideOf x (playerToMove x p)
def guar (x : Deal) : Nat → Position → Nat
  | 0, p => p.scores.1
  | f + 1, p => pick (sideTo x p) ((legalCards x p).map fun c => guar x f (playCard x p c))
/-- the guaranteed points of side 0, every legal card tried -/
def guarP (x : Deal) (p : Position) : Nat := guar x (cardsToPlay p) p
def valuesP (x : Deal) (p : Position) : List Nat := (legalCards x p).map fun c => guarP x (playCard x p c)
theorem guar_over (g : Good x p) (h : isOver p = true) : guarP x p = p.scores.1 := by
  unfold guarP
  rw [(left_over g).mp h]
  rfl
theorem not_over_pos (g : Good x p) (h : isOver p = false) : 0 < cardsToPlay p := by
  rcases Nat.eq_zero_or_pos (cardsToPlay p) with e | e
  · rw [(left_over g).mpr e] at h; cases h
  · exact e
theorem values_eq (g : Good x p) {n : Nat} (h : cardsToPlay p = n + 1) : valuesP x p = (legalCards x p).map fun c => guar x n (playCard x p c) := by
  unfold valuesP guarP
  apply List.map_congr_left
  intro c hc
  have := left_legal g hc
  rw [show cardsToPlay (playCard x p c) = n by omega]
theorem guar_step (g : Good x p) (h : isOver p = false) : guarP x p = pick (sideTo x p) (valuesP x p) := by
  have hp := not_over_pos g h
  obtain ⟨n, hn⟩ : ∃ n, cardsToPlay p = n + 1 := ⟨cardsToPlay p - 1, by omega⟩
  rw [values_eq g hn]
  unfold guarP
  rw [hn]
  rfl
theorem values_ne (g : Good x p) (h : isOver p = false) : valuesP x p ≠ [] := by
  unfold valuesP
  intro e
  exact legal_ne (hand_ne g h) (List.map_eq_nil_iff.mp e)
end
end Fd

/-! # equivalent cards lead to the same points -/
namespace Fd
open Vbndao
def sw (c d e : Nat) : Nat := if e = c then d else if e = d then c else e
section
variable {x : Deal} {p q : Position} {c d s : Nat} {O h0 : List Nat}
theorem sw_sw (c d e : Nat) : sw c d (sw c d e) = e := by
  unfold sw
  by_cases h1 : e = c
  · subst h1
    by_cases h2 : d = e
    · rw [if_pos rfl, if_pos h2, h2]
    · rw [if_pos rfl, if_neg h2, if_pos rfl]
  · by_cases h2 : e = d
    · subst h2
      rw [if_neg h1, if_pos rfl, if_pos rfl]
    · rw [if_neg h1, if_neg h2, if_neg h1, if_neg h2]
theorem sw_inj {a b : Nat} (h : sw c d a = sw c d b) : a = b := by rw [← sw_sw c d a, h, sw_sw]
/-- what makes c and d alike: both of one hand h0; O: the cards of all others and of the trick -/
structure Eqv (x : Deal) (h0 O : List Nat) (c d : Nat) : Prop where
  hc : c ∈ h0
  hd : d ∈ h0
  apart : ∀ e ∈ O, e ∉ h0
  suit : c / 16 = d / 16
  val : cardValue x c = cardValue x d
  btw : ∀ e ∈ O, e / 16 = c / 16 → ¬ (min (c % 16) (d % 16) < e % 16 ∧ e % 16 < max (c % 16) (d % 16))
theorem Eqv.suits (v : Eqv x h0 O c d) (e : Nat) : (sw c d e) / 16 = e / 16 := by
  unfold sw
  by_cases h1 : e = c
  · rw [if_pos h1, h1, v.suit]
  · rw [if_neg h1]
    by_cases h2 : e = d
    · rw [if_pos h2, h2, v.suit]
    · rw [if_neg h2]
theorem Eqv.vals (v : Eqv x h0 O c d) (e : Nat) : cardValue x (sw c d e) = cardValue x e := by
  unfold sw
  by_cases h1 : e = c
  · rw [if_pos h1, h1, v.val]
  · rw [if_neg h1]
    by_cases h2 : e = d
    · rw [if_pos h2, h2, v.val]
    · rw [if_neg h2]
theorem Eqv.out (v : Eqv x h0 O c d) {a : Nat} (ha : a ∈ O) : sw c d a = a ∧ a ≠ c ∧ a ≠ d := by
  have h1 : a ≠ c := fun e => v.apart a ha (e ▸ v.hc)
  have h2 : a ≠ d := fun e => v.apart a ha (e ▸ v.hd)
  exact ⟨by unfold sw; rw [if_neg h1, if_neg h2], h1, h2⟩
theorem beats_eq (x : Deal) (a b : Nat) : beats x a b = if a / 16 = b / 16 then decide (b % 16 < a % 16) else x.trump == some (a / 16) := rfl
/-- a card of others and any card are compared alike -/
theorem Eqv.cmp (v : Eqv x h0 O c d) {a b : Nat} (ha : a ∈ O) : beats x (sw c d a) (sw c d b) = beats x a b ∧ beats x (sw c d b) (sw c d a) = beats x b a := by
  obtain ⟨e, h1, h2⟩ := v.out ha
  have sb := v.suits b
  have key : a / 16 = b / 16 → ((sw c d b) % 16 < a % 16 ↔ b % 16 < a % 16) ∧ (a % 16 < (sw c d b) % 16 ↔ a % 16 < b % 16) := by
    intro es
    have bt := v.btw a ha
    have sv := v.suit
    unfold sw
    by_cases b1 : b = c
    · subst b1
      rw [if_pos rfl]
      have := bt es
      omega
    · rw [if_neg b1]
      by_cases b2 : b = d
      · subst b2
        rw [if_pos rfl]
        have := bt (by omega)
        omega
      · rw [if_neg b2]
        exact ⟨Iff.rfl, Iff.rfl⟩
  rw [e, beats_eq, beats_eq, beats_eq, beats_eq, sb]
  constructor
  · by_cases es : a / 16 = b / 16
    · rw [if_pos es, if_pos es]
      exact decide_eq_decide.mpr (key es).1
    · rw [if_neg es, if_neg es]
  · by_cases es : b / 16 = a / 16
    · rw [if_pos es, if_pos es]
      exact decide_eq_decide.mpr (key es.symm).2
    · rw [if_neg es, if_neg es]
theorem winner_map (v : Eqv x h0 O c d) : ∀ (l : List Nat) (k b top : Nat), (top :: l).Pairwise (fun a e => a ∈ O ∨ e ∈ O) → winnerFrom x k b (sw c d top) (l.map (sw c d)) = winnerFrom x k b top l
  | [], _, _, _, _ => rfl
  | e :: l, k, b, top, h => by
    obtain ⟨h1, h2⟩ := List.pairwise_cons.mp h
    have hb : beats x (sw c d e) (sw c d top) = beats x e top := by
      rcases h1 e List.mem_cons_self with z | z
      · exact (v.cmp z).2
      · exact (v.cmp z).1
    rw [List.map_cons]
    unfold winnerFrom
    rw [hb]
    by_cases q : beats x e top = true
    · rw [if_pos q, if_pos q]
      exact winner_map v l _ _ e h2
    · rw [if_neg q, if_neg q]
      refine winner_map v l _ _ top (List.pairwise_cons.mpr ⟨fun z hz => h1 z (List.mem_cons_of_mem _ hz), (List.pairwise_cons.mp h2).2⟩)
/-- q is p with c and d changed -/
structure Sim (x : Deal) (s : Nat) (h0 O : List Nat) (c d : Nat) (p q : Position) : Prop where
  gp : Good x p
  gq : Good x q
  lead : q.leader = p.leader
  score : q.scores = p.scores
  trick : q.trick = p.trick.map (sw c d)
  hands : ∀ j, (q.hands.getD j []).Perm ((p.hands.getD j []).map (sw c d))
  oth : ∀ j, j < x.seats.length → j ≠ s → ∀ e ∈ p.hands.getD j [], e ∈ O
  own : ∀ e ∈ p.hands.getD s [], e ∈ h0
  tr : ∀ (k : Nat) e, p.trick[k]? = some e → e ∈ O ∨ (e ∈ h0 ∧ (p.leader + k) % x.seats.length = s)
theorem Sim.ptm (m : Sim x s h0 O c d p q) : playerToMove x q = playerToMove x p := by
  rw [ptm_eq m.gp, ptm_eq m.gq, m.lead, m.trick, List.length_map]
theorem Sim.hand (m : Sim x s h0 O c d p q) : (handOf q (playerToMove x q)).Perm ((handOf p (playerToMove x p)).map (sw c d)) := by
  rw [m.ptm]
  exact m.hands _
theorem filter_sw (P : Nat → Bool) (h : ∀ e, P (sw c d e) = P e) {l k : List Nat} (pm : k.Perm (l.map (sw c d))) : (k.filter P).Perm ((l.filter P).map (sw c d)) := by
  have := pm.filter P
  rw [List.filter_map] at this
  have e : P ∘ sw c d = P := funext h
  rw [e] at this
  exact this
theorem perm_empty {l k : List Nat} (pm : k.Perm (l.map (sw c d))) : k.isEmpty = l.isEmpty := by
  have := pm.length_eq
  rw [List.length_map] at this
  cases k <;> cases l <;> first | rfl | (simp at this)
theorem Sim.legal (v : Eqv x h0 O c d) (m : Sim x s h0 O c d p q) : (legalCards x q).Perm ((legalCards x p).map (sw c d)) := by
  have hh := m.hand
  have et := m.trick
  unfold legalCards
  cases ht : p.trick with
  | nil =>
    rw [ht] at et
    rw [et]
    exact hh
  | cons t r =>
    rw [ht, List.map_cons] at et
    rw [et]
    dsimp only
    have f1 := filter_sw (c := c) (d := d) (fun e => suitOf e == suitOf t) (fun e => by show ((sw c d e) / 16 == _) = _; rw [v.suits]; rfl) hh
    have f2 := filter_sw (c := c) (d := d) (fun e => x.trump == some (suitOf e)) (fun e => by show (x.trump == some ((sw c d e) / 16)) = _; rw [v.suits]; rfl) hh
    have es : suitOf (sw c d t) = suitOf t := v.suits t
    rw [es, perm_empty f1, perm_empty f2]
    split
    · exact f1
    · split
      · exact f2
      · exact hh
theorem rem_sw {l k : List Nat} {e : Nat} (pm : k.Perm (l.map (sw c d))) : (removeCard k (sw c d e)).Perm ((removeCard l e).map (sw c d)) := by
  unfold removeCard
  have := pm.filter (fun z => z != sw c d e)
  rw [List.filter_map] at this
  have eq : ((fun z => z != sw c d e) ∘ sw c d) = fun z => z != e := funext fun z => by
    show (sw c d z != sw c d e) = (z != e)
    by_cases h : z = e
    · subst h; simp
    · have : sw c d z ≠ sw c d e := fun k => h (sw_inj k)
      rw [bne_iff_ne.mpr h, bne_iff_ne.mpr this]
  rw [eq] at this
  exact this
theorem Sim.play (v : Eqv x h0 O c d) (m : Sim x s h0 O c d p q) {e : Nat} (he : e ∈ legalCards x p) : Sim x s h0 O c d (playCard x p e) (playCard x q (sw c d e)) := by
  have he' : sw c d e ∈ legalCards x q := (m.legal v).symm.subset (List.mem_map.mpr ⟨e, he, rfl⟩)
  have hin := legal_sub he
  have hn := m.gp.n2
  have hh : ∀ j, ((handsAfter x q (sw c d e)).getD j []).Perm (((handsAfter x p e).getD j []).map (sw c d)) := fun j => by
    rw [after_getD m.gp, after_getD m.gq, m.ptm]
    by_cases h : playerToMove x p = j
    · rw [if_pos h, if_pos h]
      have := m.hand
      rw [m.ptm] at this
      exact rem_sw this
    · rw [if_neg h, if_neg h]
      exact m.hands j
  have hp := ptm_eq m.gp
  have eh : handOf p (playerToMove x p) = p.hands.getD (playerToMove x p) [] := rfl
  have hoth : ∀ j, j < x.seats.length → j ≠ s → ∀ z ∈ (handsAfter x p e).getD j [], z ∈ O := fun j hj hs z hz => by
    rw [after_getD m.gp] at hz
    by_cases h : playerToMove x p = j
    · rw [if_pos h] at hz
      have hz := (List.mem_filter.mp hz).1
      rw [eh, h] at hz
      exact m.oth j hj hs z hz
    · rw [if_neg h] at hz
      exact m.oth j hj hs z hz
  have hown : ∀ z ∈ (handsAfter x p e).getD s [], z ∈ h0 := fun z hz => by
    rw [after_getD m.gp] at hz
    by_cases h : playerToMove x p = s
    · rw [if_pos h] at hz
      have hz := (List.mem_filter.mp hz).1
      rw [eh, h] at hz
      exact m.own z hz
    · rw [if_neg h] at hz
      exact m.own z hz
  have htr : ∀ (k : Nat) z, (p.trick ++ [e])[k]? = some z → z ∈ O ∨ (z ∈ h0 ∧ (p.leader + k) % x.seats.length = s) := fun k z hz => by
    by_cases hk : k < p.trick.length
    · rw [List.getElem?_append_left hk] at hz
      exact m.tr k z hz
    · have hk2 := (List.getElem?_eq_some_iff.mp hz).1
      rw [List.length_append] at hk2
      have hk3 : k = p.trick.length := by simp at hk2; omega
      subst hk3
      simp at hz
      subst hz
      rw [← hp]
      rw [eh] at hin
      by_cases hs : playerToMove x p = s
      · rw [hs] at hin
        exact .inr ⟨m.own _ hin, hs⟩
      · exact .inl (m.oth _ (ptm_lt m.gp) hs _ hin)
  have etr : q.trick ++ [sw c d e] = (p.trick ++ [e]).map (sw c d) := by rw [m.trick, List.map_append]; rfl
  have gp' := good_legal m.gp he
  have gq' := good_legal m.gq he'
  have el : q.trick.length = p.trick.length := by rw [m.trick, List.length_map]
  by_cases hlt : p.trick.length + 1 < x.seats.length
  · have e1 : playCard x p e = { p with hands := handsAfter x p e, trick := p.trick ++ [e] } := by rw [play_eq m.gp, if_pos hlt]
    have e2 : playCard x q (sw c d e) = { q with hands := handsAfter x q (sw c d e), trick := q.trick ++ [sw c d e] } := by rw [play_eq m.gq, if_pos (by rw [el]; exact hlt)]
    rw [e1] at gp' ⊢
    rw [e2] at gq' ⊢
    exact ⟨gp', gq', m.lead, m.score, etr, hh, hoth, hown, htr⟩
  · have e1 : playCard x p e = fullAfter x p e := by rw [play_eq m.gp, if_neg hlt]
    have e2 : playCard x q (sw c d e) = fullAfter x q (sw c d e) := by rw [play_eq m.gq, if_neg (by rw [el]; exact hlt)]
    have htl : p.trick.length + 1 = x.seats.length := by have := m.gp.trick; omega
    -- the winner's place
    have pw : (p.trick ++ [e]).Pairwise (fun a z => a ∈ O ∨ z ∈ O) := by
      rw [List.pairwise_iff_getElem]
      intro i j hi hj hij
      have a1 := htr i _ (List.getElem?_eq_getElem hi)
      have a2 := htr j _ (List.getElem?_eq_getElem hj)
      rw [List.length_append] at hi hj
      simp at hi hj
      rcases a1 with a1 | ⟨_, a1⟩
      · exact .inl a1
      · rcases a2 with a2 | ⟨_, a2⟩
        · exact .inr a2
        · exact absurd (rot_inj m.gp.lead (by omega) (by omega) (a1.trans a2.symm)) (by omega)
    have ew : winnerIndex x (q.trick ++ [sw c d e]) = winnerIndex x (p.trick ++ [e]) := by
      rw [etr]
      cases hc : p.trick ++ [e] with
      | nil => rfl
      | cons z r =>
        rw [hc] at pw
        exact winner_map v r 1 0 z pw
    have ev : ((q.trick ++ [sw c d e]).map (cardValue x)) = (p.trick ++ [e]).map (cardValue x) := by
      rw [etr, List.map_map]
      exact List.map_congr_left fun z _ => v.vals z
    have eem : (handsAfter x q (sw c d e)).all (fun h => h.isEmpty) = (handsAfter x p e).all (fun h => h.isEmpty) := by
      rw [all_empty, all_empty]
      have s1 := (perm_after m.gp hin).length_eq
      have s2 := (perm_after m.gq (legal_sub he')).length_eq
      have s3 : cardsToPlay q = cardsToPlay p := by
        obtain ⟨m1, _, _, _, a1, b1⟩ := sizes_sum m.gp
        obtain ⟨m2, _, _, _, a2, b2⟩ := sizes_sum m.gq
        have l1 := hand_len m.gp b1
        have l2 := hand_len m.gq b2
        have l3 := m.hand.length_eq
        rw [List.length_map] at l3
        have : m1 = m2 := by omega
        subst this
        omega
      rw [left_eq, left_eq] at s3
      simp only [List.length_append, List.length_flatten, List.length_cons, List.length_nil] at s1 s2
      have s4 : (List.map List.length q.hands).sum = (List.map List.length p.hands).sum := s3
      have s5 : (List.map List.length (handsAfter x q (sw c d e))).sum = (List.map List.length (handsAfter x p e)).sum := by omega
      exact decide_eq_decide.mpr (by rw [show (List.map (fun h : List Nat => h.length) (handsAfter x q (sw c d e))).sum = (List.map List.length (handsAfter x q (sw c d e))).sum from rfl, s5])
    rw [e1] at gp' ⊢
    rw [e2] at gq' ⊢
    refine ⟨gp', gq', ?_, ?_, rfl, hh, hoth, hown, fun k z hz => by simp [fullAfter] at hz⟩
    · show (q.leader + _) % _ = (p.leader + _) % _
      rw [ew, m.lead]
    · show addScore x ((q.leader + _) % _) _ q.scores = addScore x ((p.leader + _) % _) _ p.scores
      rw [ew, ev, eem, m.lead, m.score]
theorem Sim.side (m : Sim x s h0 O c d p q) : sideTo x q = sideTo x p := by unfold sideTo; rw [m.ptm]
theorem sim_guar (v : Eqv x h0 O c d) : ∀ (f : Nat) {p q : Position}, Sim x s h0 O c d p q → guar x f q = guar x f p
  | 0, p, q, m => by
    show q.scores.1 = p.scores.1
    rw [m.score]
  | f + 1, p, q, m => by
    show pick (sideTo x q) _ = pick (sideTo x p) _
    rw [m.side]
    have pm := m.legal v
    by_cases hl : legalCards x p = []
    · rw [hl] at pm ⊢
      have : legalCards x q = [] := by simpa using pm
      rw [this]
      rfl
    · have key : ∀ e ∈ legalCards x p, guar x f (playCard x q (sw c d e)) = guar x f (playCard x p e) := fun e he => sim_guar v f (m.play v he)
      have hq : legalCards x q ≠ [] := by
        intro e
        rw [e] at pm
        have := pm.length_eq
        rw [List.length_map] at this
        exact hl (List.length_eq_zero_iff.mp this.symm)
      refine pick_same (by intro e; exact hq (List.map_eq_nil_iff.mp e)) (fun y hy => ?_) (fun y hy => ?_)
      · obtain ⟨z, hz, rfl⟩ := List.mem_map.mp hy
        obtain ⟨e, he, rfl⟩ := List.mem_map.mp (pm.subset hz)
        exact List.mem_map.mpr ⟨e, he, (key e he).symm⟩
      · obtain ⟨e, he, rfl⟩ := List.mem_map.mp hy
        exact List.mem_map.mpr ⟨sw c d e, pm.symm.subset (List.mem_map.mpr ⟨e, he, rfl⟩), key e he⟩
theorem mem_other {e : Nat} : e ∈ otherCards x p ↔ e ∈ p.trick ∨ ∃ (j : Nat) (h : List Nat), p.hands[j]? = some h ∧ j ≠ playerToMove x p ∧ e ∈ h := by
  unfold otherCards
  rw [List.mem_append, List.mem_flatMap]
  constructor
  · rintro (h | ⟨⟨h, j⟩, hm, he⟩)
    · exact .inl h
    · obtain ⟨h1, h2⟩ := List.mem_filter.mp hm
      have := List.mem_zipIdx_iff_getElem?.mp h1
      exact .inr ⟨j, h, by simpa using this, by simpa using h2, he⟩
  · rintro (h | ⟨j, h, hj, hn, he⟩)
    · exact .inl h
    · refine .inr ⟨(h, j), List.mem_filter.mpr ⟨List.mem_zipIdx_iff_getElem?.mpr hj, by simpa using hn⟩, he⟩
/-- two legal cards that are equivalent are worth the same -/
theorem equiv_guar (g : Good x p) (f : Nat) (hc : c ∈ legalCards x p) (hd : d ∈ legalCards x p) (he : areEquivalent x (otherCards x p) c d = true) : guar x f (playCard x p c) = guar x f (playCard x p d) := by
  have hc' := legal_sub hc
  have hd' := legal_sub hd
  unfold areEquivalent at he
  simp only [Bool.and_eq_true, beq_iff_eq, Bool.not_eq_true', List.any_eq_false, decide_eq_true_eq] at he
  obtain ⟨e1, e2, e3⟩ := he
  have v : Eqv x (handOf p (playerToMove x p)) (otherCards x p) c d := by
    refine ⟨hc', hd', fun e he hn => ?_, e1, e2, fun e he hs => ?_⟩
    · rcases mem_other.mp he with z | ⟨j, h, hj, hne, hm⟩
      · exact (List.nodup_append.mp g.nd).2.2 e z e (List.mem_flatten.mpr ⟨_, hand_mem g, hn⟩) rfl
      · exact apart g hj (hand_get g) hne hm hn
    · have k := e3 e he
      intro hb
      exact k ⟨hs, hb⟩
  by_cases ecd : c = d
  · rw [ecd]
  -- p with c played, against p with d played
  have gc := good_legal g hc
  have gd := good_legal g hd
  have sc : sw c d c = d := by unfold sw; rw [if_pos rfl]
  have hh : ∀ j, ((handsAfter x p d).getD j []).Perm (((handsAfter x p c).getD j []).map (sw c d)) := fun j => by
    rw [after_getD g, after_getD g]
    have nd := hand_nd g
    by_cases h : playerToMove x p = j
    · rw [if_pos h, if_pos h]
      have r1 : ((handOf p (playerToMove x p)).map (sw c d)).Perm (handOf p (playerToMove x p)) := by
        refine (List.perm_ext_iff_of_nodup ?_ nd).mpr fun a => ?_
        · exact List.Pairwise.map _ (fun a b hab e => hab (sw_inj e)) nd
        · constructor
          · intro ha
            obtain ⟨z, hz, rfl⟩ := List.mem_map.mp ha
            unfold sw
            split
            · exact hd'
            · split
              · exact hc'
              · exact hz
          · intro ha
            refine List.mem_map.mpr ⟨sw c d a, ?_, sw_sw c d a⟩
            unfold sw
            split
            · exact hd'
            · split
              · exact hc'
              · exact ha
      have r2 := rem_sw (e := c) r1.symm
      rw [sc] at r2
      exact r2
    · rw [if_neg h, if_neg h]
      refine List.Perm.of_eq ?_
      conv => lhs; rw [← List.map_id (p.hands.getD j [])]
      refine (List.map_congr_left fun z hz => ?_).symm
      have hz2 : z ∈ otherCards x p := by
        cases hj : p.hands[j]? with
        | none => rw [List.getD_eq_getElem?_getD, hj] at hz; cases hz
        | some k =>
          rw [List.getD_eq_getElem?_getD, hj] at hz
          exact mem_other.mpr (.inr ⟨j, k, hj, fun e => h e.symm, hz⟩)
      exact (v.out hz2).1
  have htr0 : p.trick.map (sw c d) = p.trick := by
    conv => rhs; rw [← List.map_id p.trick]
    exact List.map_congr_left fun z hz => (v.out (mem_other.mpr (.inl hz))).1
  have etr : p.trick ++ [d] = (p.trick ++ [c]).map (sw c d) := by rw [List.map_append, htr0, List.map_singleton, sc]
  have hoth : ∀ j, j < x.seats.length → j ≠ playerToMove x p → ∀ z ∈ (handsAfter x p c).getD j [], z ∈ otherCards x p := fun j hj hs z hz => by
    rw [after_getD g, if_neg (fun e => hs e.symm)] at hz
    cases hj2 : p.hands[j]? with
    | none => rw [List.getD_eq_getElem?_getD, hj2] at hz; cases hz
    | some k =>
      rw [List.getD_eq_getElem?_getD, hj2] at hz
      exact mem_other.mpr (.inr ⟨j, k, hj2, hs, hz⟩)
  have hown : ∀ z ∈ (handsAfter x p c).getD (playerToMove x p) [], z ∈ handOf p (playerToMove x p) := fun z hz => by
    rw [after_getD g, if_pos rfl] at hz
    exact (List.mem_filter.mp hz).1
  have htr : ∀ (k : Nat) z, (p.trick ++ [c])[k]? = some z → z ∈ otherCards x p ∨ (z ∈ handOf p (playerToMove x p) ∧ (p.leader + k) % x.seats.length = playerToMove x p) := fun k z hz => by
    by_cases hk : k < p.trick.length
    · rw [List.getElem?_append_left hk] at hz
      exact .inl (mem_other.mpr (.inl (List.mem_of_getElem? hz)))
    · have hk2 := (List.getElem?_eq_some_iff.mp hz).1
      rw [List.length_append] at hk2
      have hk3 : k = p.trick.length := by simp at hk2; omega
      subst hk3
      simp at hz
      subst hz
      exact .inr ⟨hc', (ptm_eq g).symm⟩
  refine (sim_guar (s := playerToMove x p) v f ?_).symm
  by_cases hlt : p.trick.length + 1 < x.seats.length
  · have e1 : playCard x p c = { p with hands := handsAfter x p c, trick := p.trick ++ [c] } := by rw [play_eq g, if_pos hlt]
    have e2 : playCard x p d = { p with hands := handsAfter x p d, trick := p.trick ++ [d] } := by rw [play_eq g, if_pos hlt]
    rw [e1] at gc ⊢
    rw [e2] at gd ⊢
    exact ⟨gc, gd, rfl, rfl, etr, hh, hoth, hown, htr⟩
  · have e1 : playCard x p c = fullAfter x p c := by rw [play_eq g, if_neg hlt]
    have e2 : playCard x p d = fullAfter x p d := by rw [play_eq g, if_neg hlt]
    have hn := g.n2
    have pw : (p.trick ++ [c]).Pairwise (fun a z => a ∈ otherCards x p ∨ z ∈ otherCards x p) := by
      rw [List.pairwise_iff_getElem]
      intro i j hi hj hij
      have a1 := htr i _ (List.getElem?_eq_getElem hi)
      have a2 := htr j _ (List.getElem?_eq_getElem hj)
      rw [List.length_append] at hi hj
      simp at hi hj
      have := g.trick
      rcases a1 with a1 | ⟨_, a1⟩
      · exact .inl a1
      · rcases a2 with a2 | ⟨_, a2⟩
        · exact .inr a2
        · exact absurd (rot_inj g.lead (by omega) (by omega) (a1.trans a2.symm)) (by omega)
    have ew : winnerIndex x (p.trick ++ [d]) = winnerIndex x (p.trick ++ [c]) := by
      rw [etr]
      cases hc : p.trick ++ [c] with
      | nil => rfl
      | cons z r =>
        rw [hc] at pw
        exact winner_map v r 1 0 z pw
    have ev : ((p.trick ++ [d]).map (cardValue x)) = (p.trick ++ [c]).map (cardValue x) := by
      rw [etr, List.map_map]
      exact List.map_congr_left fun z _ => v.vals z
    have eem : (handsAfter x p d).all (fun h => h.isEmpty) = (handsAfter x p c).all (fun h => h.isEmpty) := by
      rw [all_empty, all_empty]
      have s1 := (perm_after g hc').length_eq
      have s2 := (perm_after g hd').length_eq
      simp only [List.length_append, List.length_flatten, List.length_cons, List.length_nil] at s1 s2
      have s5 : (List.map List.length (handsAfter x p d)).sum = (List.map List.length (handsAfter x p c)).sum := by omega
      exact decide_eq_decide.mpr (by rw [show (List.map (fun h : List Nat => h.length) (handsAfter x p d)).sum = (List.map List.length (handsAfter x p d)).sum from rfl, s5])
    rw [e1] at gc ⊢
    rw [e2] at gd ⊢
    refine ⟨gc, gd, ?_, ?_, rfl, hh, hoth, hown, fun k z hz => by simp [fullAfter] at hz⟩
    · show (p.leader + _) % _ = (p.leader + _) % _
      rw [ew]
    · show addScore x ((p.leader + _) % _) _ p.scores = addScore x ((p.leader + _) % _) _ p.scores
      rw [ew, ev, eem]
/-- each legal card has a representative that is worth the same -/
theorem has_rep (g : Good x p) (f : Nat) (c : Nat) : c ∈ legalCards x p → ∃ r ∈ representatives x p (legalCards x p), guar x f (playCard x p c) = guar x f (playCard x p r) := by
  induction c using Nat.strongRecOn with
  | _ c ih =>
    intro hc
    by_cases h : (legalCards x p).any (fun d => decide (d < c) && areEquivalent x (otherCards x p) c d) = true
    · obtain ⟨d, hd, hk⟩ := List.any_eq_true.mp h
      rw [Bool.and_eq_true, decide_eq_true_eq] at hk
      obtain ⟨r, hr, er⟩ := ih d hk.1 hd
      exact ⟨r, hr, (equiv_guar g f hc hd hk.2).trans er⟩
    · refine ⟨c, List.mem_filter.mpr ⟨hc, ?_⟩, rfl⟩
      have h := Bool.eq_false_iff.mpr h
      show (!_) = true
      rw [h]
      rfl
/-- the search of the specification, over representatives alone, comes to the same -/
theorem mini_guar : ∀ (f : Nat) {p : Position}, Good x p → cardsToPlay p = f → minimaxByRepresentatives x f p = guar x f p
  | 0, p, _, _ => rfl
  | f + 1, p, g, hf => by
    have ho : isOver p = false := by
      cases h : isOver p with
      | false => rfl
      | true => have := (left_over g).mp h; omega
    have hl : legalCards x p ≠ [] := legal_ne (hand_ne g ho)
    have key : ∀ e ∈ legalCards x p, minimaxByRepresentatives x f (playCard x p e) = guar x f (playCard x p e) := fun e he => mini_guar f (good_legal g he) (by have := left_legal g he; omega)
    have sub : ∀ e ∈ representatives x p (legalCards x p), e ∈ legalCards x p := fun e he => (List.mem_filter.mp he).1
    have e1 : minimaxByRepresentatives x (f + 1) p = pick (sideTo x p) ((representatives x p (legalCards x p)).map fun e => guar x f (playCard x p e)) := by
      show (match representatives x p (legalCards x p) with
        | [] => p.scores.1
        | c :: r => r.foldl (fun b d => betterFor (sideOf x (playerToMove x p)) b (minimaxByRepresentatives x f (playCard x p d))) (minimaxByRepresentatives x f (playCard x p c))) = _
      cases hr : representatives x p (legalCards x p) with
      | nil =>
        exfalso
        cases hc : legalCards x p with
        | nil => exact hl hc
        | cons a r =>
          obtain ⟨z, hz, _⟩ := has_rep g f a (by rw [hc]; exact List.mem_cons_self)
          rw [hr] at hz
          cases hz
      | cons c r =>
        have hc := key c (sub c (by rw [hr]; exact List.mem_cons_self))
        show r.foldl _ _ = pick _ (guar x f (playCard x p c) :: r.map _)
        show r.foldl _ _ = (r.map _).foldl (betterFor _) _
        rw [List.foldl_map, hc]
        have hs : ∀ e ∈ r, minimaxByRepresentatives x f (playCard x p e) = guar x f (playCard x p e) := fun e he => key e (sub e (by rw [hr]; exact List.mem_cons_of_mem _ he))
        generalize guar x f (playCard x p c) = a
        clear hr hc
        induction r generalizing a with
        | nil => rfl
        | cons z r ih =>
          rw [List.foldl_cons, List.foldl_cons, hs z List.mem_cons_self]
          exact ih (fun e he => hs e (List.mem_cons_of_mem _ he)) _
    rw [e1]
    show pick _ _ = pick _ _
    have hrep : representatives x p (legalCards x p) ≠ [] := by
      intro e
      cases hc : legalCards x p with
      | nil => exact hl hc
      | cons a r =>
        obtain ⟨z, hz, _⟩ := has_rep g f a (by rw [hc]; exact List.mem_cons_self)
        rw [e] at hz
        cases hz
    refine pick_same (by intro e; exact hrep (List.map_eq_nil_iff.mp e)) (fun y hy => ?_) (fun y hy => ?_)
    · obtain ⟨e, he, rfl⟩ := List.mem_map.mp hy
      exact List.mem_map.mpr ⟨e, sub e he, rfl⟩
    · obtain ⟨e, he, rfl⟩ := List.mem_map.mp hy
      obtain ⟨r, hr, er⟩ := has_rep g f e he
      exact List.mem_map.mpr ⟨r, hr, er.symm⟩
theorem value_guar (g : Good x p) : gameValue x p = guarP x p := mini_guar _ g rfl
end
end Fd

/-! # the total; best cards and lines; a side against choices -/
namespace Fd
open Vbndao
section
variable {x : Deal} {p : Position} {c d : Nat}
def valSum (x : Deal) (l : List Nat) : Nat := (l.map (cardValue x)).sum
theorem valSum_perm {l k : List Nat} (h : l.Perm k) : valSum x l = valSum x k := (h.map (cardValue x)).sum_nat
theorem valSum_app (l k : List Nat) : valSum x (l ++ k) = valSum x l + valSum x k := by unfold valSum; rw [List.map_append, List.sum_append]
theorem flat_id (l : List (List Nat)) : (l.flatMap fun h => h) = l.flatten := by
  induction l with
  | nil => rfl
  | cons a r ih => rw [List.flatMap_cons, ih, List.flatten_cons]
theorem round_up {n m : Nat} (hn : 2 ≤ n) : (n * m + n - 1) / n = m := by
  have : n * m + n - 1 = (n - 1) + n * m := by omega
  rw [this, Nat.add_mul_div_left _ _ (by omega), Nat.div_eq_of_lt (by omega), Nat.zero_add]
/-- the total, over the number m of tricks that are left -/
theorem total_eq (g : Good x p) : ∃ m, cardsToPlay p + p.trick.length = x.seats.length * m ∧ (m = 0 ↔ isOver p = true) ∧
    totalPoints x p = p.scores.1 + p.scores.2 + (if m = 0 then 0 else valSum x (p.trick ++ p.hands.flatten) + trickValueOf x * m + lastTrickBonusOf x) := by
  obtain ⟨m, _, _, hm, hs, hh⟩ := sizes_sum g
  have hn := g.n2
  have ht := g.trick
  have ho : m = 0 ↔ isOver p = true := by
    rw [left_over g]
    constructor
    · intro e; subst e; omega
    · intro e
      rcases Nat.eq_zero_or_pos m with z | z
      · exact z
      · have : x.seats.length * 1 ≤ x.seats.length * m := Nat.mul_le_mul_left _ z
        omega
  refine ⟨m, hs, ho, ?_⟩
  unfold totalPoints
  have e1 : (unscoredCards p + playerCount x - 1) / max 1 (playerCount x) = m := by
    unfold unscoredCards playerCount
    rw [Nat.max_eq_right (by omega), sum0]
    have : p.trick.length + (p.hands.map fun h => h.length).sum = x.seats.length * m := by rw [← hs, left_eq]; omega
    rw [this, round_up hn]
  rw [e1, sum0, flat_id]
  by_cases e : m = 0
  · rw [if_pos e, if_pos (ho.mp e)]
  · rw [if_neg e, if_neg (fun h => e (ho.mpr h))]
    rfl
theorem score_sum (i n : Nat) (s : Nat × Nat) : (addScore x i n s).1 + (addScore x i n s).2 = s.1 + s.2 + n := by
  unfold addScore
  split
  · show s.1 + n + s.2 = _; omega
  · show s.1 + (s.2 + n) = _; omega
theorem total_play (g : Good x p) (hc : c ∈ legalCards x p) : totalPoints x (playCard x p c) = totalPoints x p := by
  have hin := legal_sub hc
  have g' := good_legal g hc
  obtain ⟨m, hs, ho, ht⟩ := total_eq g
  obtain ⟨m', hs', ho', ht'⟩ := total_eq g'
  have hl := left_legal g hc
  have hn := g.n2
  have hnot : m ≠ 0 := fun e => by
    have h0 := (left_over g).mp (ho.mp e)
    omega
  have pm := valSum_perm (x := x) (perm_after g hin)
  rw [ht, ht', if_neg hnot]
  by_cases hlt : p.trick.length + 1 < x.seats.length
  · have e1 : playCard x p c = { p with hands := handsAfter x p c, trick := p.trick ++ [c] } := by rw [play_eq g, if_pos hlt]
    rw [e1] at hs' hl ⊢
    have e2 : m' = m := by
      have hs2 : cardsToPlay { p with hands := handsAfter x p c, trick := p.trick ++ [c] } + (p.trick ++ [c]).length = x.seats.length * m' := hs'
      rw [List.length_append] at hs2
      have : x.seats.length * m' = x.seats.length * m := by
        rw [← hs2, ← hs]; simp; omega
      exact Nat.eq_of_mul_eq_mul_left (by omega) this
    rw [e2, if_neg hnot]
    show _ + (valSum x ((p.trick ++ [c]) ++ (handsAfter x p c).flatten) + _ + _) = _
    rw [← pm]
  · have htl : p.trick.length + 1 = x.seats.length := by have := g.trick; omega
    have e1 : playCard x p c = fullAfter x p c := by rw [play_eq g, if_neg hlt]
    rw [e1] at hs' hl ho' ⊢
    have e2 : m' + 1 = m := by
      have hs2 : cardsToPlay (fullAfter x p c) + 0 = x.seats.length * m' := hs'
      have : x.seats.length * (m' + 1) = x.seats.length * m := by
        rw [Nat.mul_add, ← hs2, ← hs]; omega
      exact Nat.eq_of_mul_eq_mul_left (by omega) this
    have emp : (handsAfter x p c).all (fun h => h.isEmpty) = isOver (fullAfter x p c) := by
      show _ = (([] : List Nat).isEmpty && (handsAfter x p c).all fun h => h.isEmpty)
      rfl
    have sc : (fullAfter x p c).scores.1 + (fullAfter x p c).scores.2 = p.scores.1 + p.scores.2 + (trickValueOf x + valSum x (p.trick ++ [c]) + (if m' = 0 then lastTrickBonusOf x else 0)) := by
      show (addScore x _ _ p.scores).1 + (addScore x _ _ p.scores).2 = _
      rw [score_sum, emp]
      congr 2
      by_cases e : m' = 0
      · rw [if_pos e, if_pos (ho'.mp e)]
      · rw [if_neg e, if_neg (fun h => e (ho'.mpr h))]
    have fl : (fullAfter x p c).trick ++ (fullAfter x p c).hands.flatten = (handsAfter x p c).flatten := rfl
    have va := valSum_app (x := x) (p.trick ++ [c]) (handsAfter x p c).flatten
    rw [sc, fl, pm, va, ← e2, Nat.mul_add, Nat.mul_one]
    generalize valSum x (p.trick ++ [c]) = A
    by_cases e : m' = 0
    · rw [if_pos e, if_pos e, e]
      have hz : valSum x (handsAfter x p c).flatten = 0 := by
        have h1 := ho'.mp e
        rw [← emp, all_empty, decide_eq_true_eq] at h1
        have h2 : (handsAfter x p c).flatten.length = 0 := by rw [List.length_flatten]; exact h1
        rw [List.length_eq_zero_iff.mp h2]
        rfl
      rw [hz]
      omega
    · rw [if_neg e, if_neg e]
      omega
theorem guar_le : ∀ (f : Nat) {p : Position}, Good x p → cardsToPlay p = f → guar x f p ≤ totalPoints x p
  | 0, p, g, hf => by
    obtain ⟨m, hs, ho, ht⟩ := total_eq g
    rw [ht]
    show p.scores.1 ≤ _
    omega
  | f + 1, p, g, hf => by
    have ho : isOver p = false := by
      cases h : isOver p with
      | false => rfl
      | true => have := (left_over g).mp h; omega
    have hne := values_ne g ho
    rw [values_eq g hf] at hne
    have hb := (pick_best (side := sideTo x p) hne).1
    obtain ⟨c, hc, e⟩ := List.mem_map.mp hb
    show pick _ _ ≤ _
    rw [← e, ← total_play g hc]
    exact guar_le f (good_legal g hc) (by have := left_legal g hc; omega)
theorem guarP_le (g : Good x p) : guarP x p ≤ totalPoints x p := guar_le _ g rfl
/-! ### the deal -/
def sizeOfDeal (x : Deal) : Nat := (x.seats.headD ⟨0, []⟩).cards.length
structure DealOk (x : Deal) : Prop where
  n2 : 2 ≤ x.seats.length
  n4 : x.seats.length ≤ 4
  side : ∀ s ∈ x.seats, s.side ≤ 1
  len : ∀ s ∈ x.seats, s.cards.length = sizeOfDeal x
  pos : 1 ≤ sizeOfDeal x
  most : sizeOfDeal x ≤ 4 ∧ (x.seats.length = 2 ∨ sizeOfDeal x ≤ 3)
  card : ∀ c ∈ allCards x, CardOk c
  nd : (allCards x).Nodup
  lead : firstLeaderOf x < x.seats.length
  trump : ∀ k, x.trump = some k → k ≤ 3
  ranks : ∀ y ∈ x.rankValues, 1 ≤ y.1 ∧ y.1 ≤ 13 ∧ y.2 ≤ 50
  ranksNd : (x.rankValues.map (·.1)).Nodup
  nums : (∀ k, x.trickValue = some k → k ≤ 50) ∧ (∀ k, x.lastTrickBonus = some k → k ≤ 50) ∧ (∀ k, x.firstLeader = some k → k ≤ 3)
theorem all_flat (x : Deal) : allCards x = ((x.seats.map fun s => s.cards).flatten) := by
  unfold allCards
  rw [List.flatMap_def]
theorem good_start (o : DealOk x) : Good x (initialPosition x) := by
  have hn := o.n2
  refine ⟨o.n2, o.n4, o.side, by show (x.seats.map _).length = _; rw [List.length_map], o.lead, by show 0 < _; omega, fun c hc => ?_, ?_, sizeOfDeal x, o.most.1, o.most.2, .inl rfl, fun i hi => ?_⟩
  · have hc : c ∈ (x.seats.map fun s => s.cards).flatten := hc
    rw [← all_flat] at hc
    exact o.card c hc
  · show ((x.seats.map fun s => s.cards).flatten).Nodup
    rw [← all_flat]
    exact o.nd
  · have hj : (firstLeaderOf x + i) % x.seats.length < x.seats.length := Nat.mod_lt _ (by omega)
    show ((x.seats.map fun s => s.cards).getD ((firstLeaderOf x + i) % x.seats.length) []).length + (if i < 0 then 1 else 0) = _
    rw [List.getD_eq_getElem?_getD, List.getElem?_map, List.getElem?_eq_getElem hj, if_neg (by omega)]
    exact o.len _ (List.getElem_mem hj)
def totalOf (x : Deal) : Nat := trickValueOf x * sizeOfDeal x + lastTrickBonusOf x + valSum x (allCards x)
theorem total_start (o : DealOk x) : totalPoints x (initialPosition x) = totalOf x := by
  have g := good_start o
  obtain ⟨m, hs, ho, ht⟩ := total_eq g
  obtain ⟨m2, _, _, _, hs2, hh⟩ := sizes_sum g
  have hn := o.n2
  have e1 : m2 = sizeOfDeal x := by
    have k := hh 0 (by omega)
    have hj : (firstLeaderOf x + 0) % x.seats.length < x.seats.length := Nat.mod_lt _ (by omega)
    have k : ((x.seats.map fun s => s.cards).getD ((firstLeaderOf x + 0) % x.seats.length) []).length + (if 0 < 0 then 1 else 0) = m2 := k
    rw [List.getD_eq_getElem?_getD, List.getElem?_map, List.getElem?_eq_getElem hj, if_neg (by omega)] at k
    rw [← k]
    exact o.len _ (List.getElem_mem hj)
  have e2 : m = m2 := Nat.eq_of_mul_eq_mul_left (by omega) (hs.symm.trans hs2)
  rw [ht, e2, e1, if_neg (by have := o.pos; omega)]
  show 0 + 0 + (valSum x ([] ++ (x.seats.map fun s => s.cards).flatten) + _ + _) = _
  rw [List.nil_append, ← all_flat]
  unfold totalOf
  omega
/-- cards played one behind another, each legal -/
def Run (x : Deal) : Position → List Nat → Prop
  | _, [] => True
  | p, c :: r => c ∈ legalCards x p ∧ Run x (playCard x p c) r
def runTo (x : Deal) (p : Position) (l : List Nat) : Position := l.foldl (playCard x) p
theorem run_good : ∀ {l : List Nat} {p : Position}, Good x p → Run x p l → Good x (runTo x p l) ∧ totalPoints x (runTo x p l) = totalPoints x p ∧ cardsToPlay (runTo x p l) + l.length = cardsToPlay p
  | [], p, g, _ => ⟨g, rfl, rfl⟩
  | c :: r, p, g, h => by
    obtain ⟨a, b, e⟩ := run_good (good_legal g h.1) h.2
    have := left_legal g h.1
    exact ⟨a, b.trans (total_play g h.1), by show cardsToPlay (runTo x (playCard x p c) r) + (r.length + 1) = _; omega⟩
theorem run_app : ∀ {l : List Nat} {p : Position}, Run x p l → c ∈ legalCards x (runTo x p l) → Run x p (l ++ [c])
  | [], _, _, h => ⟨h, trivial⟩
  | _ :: _, _, h, k => ⟨h.1, run_app h.2 k⟩
theorem run_take : ∀ {l : List Nat} {p : Position} (n : Nat), Run x p l → Run x p (l.take n)
  | _, _, 0, _ => by rw [List.take_zero]; trivial
  | [], _, _ + 1, h => h
  | _ :: _, _, n + 1, h => ⟨h.1, run_take n h.2⟩
end
end Fd

/-! # best cards, lines, plans, choices -/
namespace Fd
open Vbndao
/-- the first place of m -/
def FirstAt (vs : List Nat) (m j : Nat) : Prop := vs[j]? = some m ∧ ∀ k, k < j → vs[k]? ≠ some m
theorem first_at : ∀ {vs : List Nat} {m : Nat}, m ∈ vs → ∃ j, FirstAt vs m j
  | [], _, h => by cases h
  | a :: r, m, h => by
    by_cases e : a = m
    · exact ⟨0, by rw [e]; rfl, fun k hk => by omega⟩
    · have h2 : m ∈ r := by
        rcases List.mem_cons.mp h with z | z
        · exact absurd z.symm e
        · exact z
      obtain ⟨j, h3, h4⟩ := first_at h2
      refine ⟨j + 1, by simpa using h3, fun k hk => ?_⟩
      cases k with
      | zero => simp [e]
      | succ k => simpa using h4 k (by omega)
theorem first_one {vs : List Nat} {m j k : Nat} (h : FirstAt vs m j) (h' : FirstAt vs m k) : j = k := by
  rcases Nat.lt_trichotomy j k with e | e | e
  · exact absurd h.1 (h'.2 j e)
  · exact e
  · exact absurd h'.1 (h.2 k e)
section
variable {x : Deal} {p : Position} {c d : Nat}
/-- the i-th of some cards -/
theorem map_at {α β : Type} {l : List α} {f : α → β} {j : Nat} {m : β} (h : (l.map f)[j]? = some m) : ∃ c, l[j]? = some c ∧ f c = m := by
  rw [List.getElem?_map] at h
  cases e : l[j]? with
  | none => rw [e] at h; cases h
  | some c => rw [e] at h; exact ⟨c, rfl, Option.some.inj h⟩
theorem best_move (g : Good x p) (h : isOver p = false) : ∃ j c, FirstAt (valuesP x p) (guarP x p) j ∧ (legalCards x p)[j]? = some c ∧ bestMove x p = some c := by
  have hb := (pick_best (side := sideTo x p) (values_ne g h)).1
  rw [← guar_step g h] at hb
  obtain ⟨j, h1, h2⟩ := first_at hb
  obtain ⟨c, hc, ec⟩ := map_at (f := fun c => guarP x (playCard x p c)) h1
  refine ⟨j, c, ⟨h1, h2⟩, hc, ?_⟩
  have mv : moveValues x p = (legalCards x p).map fun c => (c, guarP x (playCard x p c)) := by
    unfold moveValues
    exact List.map_congr_left fun z hz => by rw [value_guar (good_legal g hz)]
  unfold bestMove
  rw [value_guar g, mv]
  have hlt := (List.getElem?_eq_some_iff.mp hc).1
  have hf : ((legalCards x p).map fun c => (c, guarP x (playCard x p c))).find? (fun y => y.2 == guarP x p) = some (c, guarP x (playCard x p c)) := by
    rw [List.find?_eq_some_iff_getElem]
    refine ⟨by show (_ == _) = true; rw [ec]; exact beq_self_eq_true _, j, by rw [List.length_map]; exact hlt, ?_, fun k hk => ?_⟩
    · rw [List.getElem_map, (List.getElem?_eq_some_iff.mp hc).2]
    · have hkl : k < (legalCards x p).length := by omega
      rw [List.getElem_map]
      have q := h2 k hk
      unfold valuesP at q
      rw [List.getElem?_map, List.getElem?_eq_getElem hkl] at q
      have q2 : guarP x (playCard x p (legalCards x p)[k]) ≠ guarP x p := fun e => q (congrArg some e)
      show (!(_ == _)) = true
      rw [beq_eq_false_iff_ne.mpr q2]
      rfl
  show Option.map _ (List.find? _ _) = _
  rw [hf]
  rfl
/-- the best card; the position behind it -/
def bestC (x : Deal) (p : Position) : Nat := (bestMove x p).getD 0
theorem best_legal (g : Good x p) (h : isOver p = false) : bestC x p ∈ legalCards x p := by
  obtain ⟨j, c, _, hc, e⟩ := best_move g h
  unfold bestC
  rw [e]
  exact List.mem_of_getElem? hc
def posB (x : Deal) : Nat → Position → Position
  | 0, p => p
  | n + 1, p => posB x n (playCard x p (bestC x p))
theorem over_of_left (g : Good x p) {n : Nat} (h : cardsToPlay p = n + 1) : isOver p = false := by
  cases q : isOver p with
  | false => rfl
  | true => have := (left_over g).mp q; omega
theorem posB_good : ∀ (n : Nat) {p : Position}, Good x p → n ≤ cardsToPlay p → Good x (posB x n p) ∧ cardsToPlay (posB x n p) + n = cardsToPlay p
  | 0, p, g, _ => ⟨g, rfl⟩
  | n + 1, p, g, h => by
    have ho := over_of_left g (n := cardsToPlay p - 1) (by omega)
    have hb := best_legal g ho
    have hl := left_legal g hb
    obtain ⟨a, b⟩ := posB_good n (good_legal g hb) (by omega)
    exact ⟨a, by show cardsToPlay (posB x n (playCard x p (bestC x p))) + (n + 1) = _; omega⟩
theorem posB_succ : ∀ (n : Nat) (p : Position), posB x (n + 1) p = playCard x (posB x n p) (bestC x (posB x n p))
  | 0, _ => rfl
  | n + 1, p => posB_succ n (playCard x p (bestC x p))
theorem best_line : ∀ (n : Nat) {p : Position}, Good x p → n ≤ cardsToPlay p → bestLineFrom x n p = (List.range n).map fun i => bestC x (posB x i p)
  | 0, p, g, _ => rfl
  | n + 1, p, g, h => by
    have ho := over_of_left g (n := cardsToPlay p - 1) (by omega)
    obtain ⟨j, c, _, hc, e⟩ := best_move g ho
    have hb := best_legal g ho
    have hl := left_legal g hb
    show (match bestMove x p with
      | none => []
      | some c => c :: bestLineFrom x n (playCard x p c)) = _
    have ec : bestC x p = c := by unfold bestC; rw [e]; rfl
    rw [e]
    show c :: bestLineFrom x n (playCard x p c) = _
    rw [← ec, best_line n (good_legal g hb) (by omega), List.range_succ_eq_map, List.map_cons, List.map_map]
    rfl
/-! ### choices -/
/-- one turn: the position, how many choices are used -/
def turnA (x : Deal) (side : Nat) (ks : List Nat) (s : Position × Nat) : Position × Nat :=
  if sideTo x s.1 = side then (playCard x s.1 (bestC x s.1), s.2) else (playCard x s.1 ((legalCards x s.1).getD ((ks.getD s.2 0) % (legalCards x s.1).length) 0), s.2 + 1)
def posA (x : Deal) (side : Nat) (ks : List Nat) : Nat → Position × Nat → Position × Nat
  | 0, s => s
  | n + 1, s => posA x side ks n (turnA x side ks s)
theorem posA_succ {side : Nat} {ks : List Nat} : ∀ (n : Nat) (s : Position × Nat), posA x side ks (n + 1) s = turnA x side ks (posA x side ks n s)
  | 0, _ => rfl
  | n + 1, s => posA_succ n (turnA x side ks s)
theorem getD_mod_mem {l : List Nat} (h : l ≠ []) (k : Nat) : l.getD (k % l.length) 0 ∈ l := by
  have hl : 0 < l.length := List.length_pos_iff.mpr h
  have hk := Nat.mod_lt k hl
  rw [List.getD_eq_getElem?_getD, List.getElem?_eq_getElem hk]
  exact List.getElem_mem hk
theorem turnA_legal {side : Nat} {ks : List Nat} {u : Nat} (g : Good x p) (h : isOver p = false) : ∃ c ∈ legalCards x p, (turnA x side ks (p, u)).1 = playCard x p c := by
  unfold turnA
  split
  · exact ⟨_, best_legal g h, rfl⟩
  · exact ⟨_, getD_mod_mem (legal_ne (hand_ne g h)) _, rfl⟩
theorem posA_good {side : Nat} {ks : List Nat} : ∀ (n : Nat) {p : Position} (u : Nat), Good x p → n ≤ cardsToPlay p → Good x (posA x side ks n (p, u)).1 ∧ cardsToPlay (posA x side ks n (p, u)).1 + n = cardsToPlay p
  | 0, p, _, g, _ => ⟨g, rfl⟩
  | n + 1, p, u, g, h => by
    have ho := over_of_left g (n := cardsToPlay p - 1) (by omega)
    obtain ⟨c, hc, e⟩ := turnA_legal (side := side) (ks := ks) (u := u) g ho
    have hl := left_legal g hc
    have e2 : turnA x side ks (p, u) = (playCard x p c, (turnA x side ks (p, u)).2) := by rw [← e]
    obtain ⟨a, b⟩ := posA_good (side := side) (ks := ks) n (turnA x side ks (p, u)).2 (good_legal g hc) (by omega)
    rw [← e2] at a b
    exact ⟨a, by show cardsToPlay (posA x side ks n (turnA x side ks (p, u))).1 + (n + 1) = _; omega⟩
theorem against {side : Nat} {ks : List Nat} : ∀ (n : Nat) {p : Position} (u : Nat), Good x p → n ≤ cardsToPlay p → playAgainst x side n (ks.drop u) p = (posA x side ks n (p, u)).1
  | 0, _, _, _, _ => rfl
  | n + 1, p, u, g, h => by
    have ho := over_of_left g (n := cardsToPlay p - 1) (by omega)
    have hne := legal_ne (hand_ne g ho)
    have hhd : (ks.drop u).headD 0 = ks.getD u 0 := by
      rw [List.headD_eq_head?_getD, List.head?_drop, List.getD_eq_getElem?_getD]
    have hdd : (ks.drop u).drop 1 = ks.drop (u + 1) := by rw [List.drop_drop]
    show playAgainst x side (n + 1) (ks.drop u) p = (posA x side ks n (turnA x side ks (p, u))).1
    unfold playAgainst
    cases hl : legalCards x p with
    | nil => exact absurd hl hne
    | cons a r =>
      dsimp only
      rw [← hl, hhd, hdd]
      unfold turnA
      by_cases hs : sideTo x p = side
      · have hs2 : sideOf x (playerToMove x p) = side := hs
        rw [if_pos hs2, if_pos hs]
        obtain ⟨j, c, _, hc, e⟩ := best_move g ho
        have ec : bestC x p = c := by unfold bestC; rw [e]; rfl
        have hcl : c ∈ legalCards x p := List.mem_of_getElem? hc
        rw [e]
        show playAgainst x side n (ks.drop u) (playCard x p c) = _
        dsimp only
        rw [ec]
        exact against n u (good_legal g hcl) (by have := left_legal g hcl; omega)
      · have hs2 : ¬ sideOf x (playerToMove x p) = side := hs
        rw [if_neg hs2, if_neg hs]
        have hcl := getD_mod_mem hne (ks.getD u 0)
        exact against n (u + 1) (good_legal g hcl) (by have := left_legal g hcl; omega)
/-! ### how many continuations -/
theorem cont_step (g : Good x p) {n : Nat} (h : cardsToPlay p = n + 1) : continuationCount x (cardsToPlay p) p = ((legalCards x p).map fun c => continuationCount x (cardsToPlay (playCard x p c)) (playCard x p c)).sum := by
  have ho := over_of_left g h
  have hne := legal_ne (hand_ne g ho)
  rw [h]
  show (match legalCards x p with
    | [] => 1
    | l => (l.map fun c => continuationCount x n (playCard x p c)).foldl (fun a b => a + b) 0) = _
  cases hl : legalCards x p with
  | nil => exact absurd hl hne
  | cons a r =>
    dsimp only
    rw [← hl, sum0]
    congr 1
    exact List.map_congr_left fun c hc => by
      have := left_legal g hc
      rw [show cardsToPlay (playCard x p c) = n by omega]
theorem cont_over (g : Good x p) (h : isOver p = true) : continuationCount x (cardsToPlay p) p = 1 := by
  rw [(left_over g).mp h]
  rfl
/-! ### plans -/
def ptsOf (side : Nat) (p : Position) : Nat := if side = 0 then p.scores.1 else p.scores.2
def byPlan (x : Deal) (p : Position) (side : Nat) (l : List Nat) : List Nat := if sideTo x p = side then [(plannedCard l (legalCards x p)).getD 0] else legalCards x p
def planP (x : Deal) (side : Nat) (l : List Nat) (p : Position) : Nat := (planValueFrom x side l (cardsToPlay p) p).1
def planVals (x : Deal) (side : Nat) (l : List Nat) (p : Position) : List Nat := (byPlan x p side l).map fun c => planP x side l (playCard x p c)
theorem planned_some {l m : List Nat} (h : m ≠ []) : ∃ c ∈ m, plannedCard l m = some c := by
  unfold plannedCard
  cases e : l.find? (fun c => m.contains c) with
  | some c =>
    have := List.find?_some e
    exact ⟨c, by simpa using this, rfl⟩
  | none =>
    cases m with
    | nil => exact absurd rfl h
    | cons a r => exact ⟨a, List.mem_cons_self, rfl⟩
theorem byPlan_sub {side : Nat} {l : List Nat} (h : legalCards x p ≠ []) : byPlan x p side l ≠ [] ∧ ∀ c ∈ byPlan x p side l, c ∈ legalCards x p := by
  unfold byPlan
  split
  · obtain ⟨c, hc, e⟩ := planned_some (l := l) h
    rw [e]
    exact ⟨by simp, fun d hd => by rw [List.mem_singleton] at hd; subst hd; exact hc⟩
  · exact ⟨h, fun _ h => h⟩
/-- the first of the least -/
theorem fold_first (y : Nat → Nat × List Nat) : ∀ (r : List Nat) (b : Nat × List Nat) (pre : List Nat) (j c : Nat), pre[j]? = some c → b = ((y c).1, c :: (y c).2) → FirstAt (pre.map fun c => (y c).1) b.1 j → (∀ e ∈ pre, b.1 ≤ (y e).1) →
    ∃ j' c', (pre ++ r)[j']? = some c' ∧ r.foldl (fun (b : Nat × List Nat) d => if (y d).1 < b.1 then ((y d).1, d :: (y d).2) else b) b = ((y c').1, c' :: (y c').2) ∧ FirstAt ((pre ++ r).map fun c => (y c).1) (y c').1 j' ∧ ∀ e ∈ pre ++ r, (y c').1 ≤ (y e).1
  | [], b, pre, j, c, h1, h2, h3, h4 => by
    rw [List.append_nil]
    subst h2
    exact ⟨j, c, h1, rfl, h3, h4⟩
  | d :: r, b, pre, j, c, h1, h2, h3, h4 => by
    have e1 : pre ++ d :: r = (pre ++ [d]) ++ r := by simp
    rw [List.foldl_cons, e1]
    have hj := (List.getElem?_eq_some_iff.mp h1).1
    by_cases q : (y d).1 < b.1
    · rw [if_pos q]
      refine fold_first y r _ (pre ++ [d]) pre.length d (by simp) rfl ⟨by simp, fun k hk => ?_⟩ fun e he => ?_
      · rw [List.getElem?_map, List.getElem?_append_left hk, List.getElem?_eq_getElem hk]
        intro e
        have := h4 _ (List.getElem_mem hk)
        have e := Option.some.inj e
        dsimp only at e
        omega
      · dsimp only
        rcases List.mem_append.mp he with he | he
        · have := h4 e he; omega
        · rw [List.mem_singleton] at he; subst he; exact Nat.le_refl _
    · rw [if_neg q]
      refine fold_first y r b (pre ++ [d]) j c (by rw [List.getElem?_append_left hj]; exact h1) h2 ⟨?_, fun k hk => ?_⟩ fun e he => ?_
      · rw [List.map_append, List.getElem?_append_left (by rw [List.length_map]; exact hj)]
        exact h3.1
      · rw [List.map_append, List.getElem?_append_left (by rw [List.length_map]; omega)]
        exact h3.2 k hk
      · rcases List.mem_append.mp he with he | he
        · exact h4 e he
        · rw [List.mem_singleton] at he; subst he; omega
theorem plan_step {side : Nat} {l : List Nat} (g : Good x p) {n : Nat} (h : cardsToPlay p = n + 1) : ∃ j c, (byPlan x p side l)[j]? = some c ∧ FirstAt (planVals x side l p) (planP x side l p) j ∧ (∀ v ∈ planVals x side l p, planP x side l p ≤ v) ∧
    planValueFrom x side l (n + 1) p = (planP x side l p, c :: (planValueFrom x side l n (playCard x p c)).2) := by
  have ho := over_of_left g h
  have hne := legal_ne (hand_ne g ho)
  obtain ⟨hb, hsub⟩ := byPlan_sub (side := side) (l := l) hne
  have hv : planVals x side l p = (byPlan x p side l).map fun c => (planValueFrom x side l n (playCard x p c)).1 := by
    unfold planVals planP
    exact List.map_congr_left fun c hc => by
      have := left_legal g (hsub c hc)
      rw [show cardsToPlay (playCard x p c) = n by omega]
  have hP : planP x side l p = (planValueFrom x side l (n + 1) p).1 := by unfold planP; rw [h]
  rw [hv, hP]
  have key : planValueFrom x side l (n + 1) p = (match legalCards x p with
    | [] => ((if side = 0 then p.scores.1 else p.scores.2), [])
    | c :: r => if sideOf x (playerToMove x p) = side then (match plannedCard l (c :: r) with
        | none => ((if side = 0 then p.scores.1 else p.scores.2), [])
        | some d => let y := planValueFrom x side l n (playCard x p d)
          (y.1, d :: y.2)) else
      let first := planValueFrom x side l n (playCard x p c)
      r.foldl (fun (b : Nat × List Card) d => let y := planValueFrom x side l n (playCard x p d)
        if y.1 < b.1 then (y.1, d :: y.2) else b) (first.1, c :: first.2)) := rfl
  rw [key]
  cases hl : legalCards x p with
  | nil => exact absurd hl hne
  | cons a r =>
    dsimp only
    unfold byPlan
    by_cases hs : sideTo x p = side
    · have hs2 : sideOf x (playerToMove x p) = side := hs
      rw [if_pos hs, if_pos hs2]
      obtain ⟨d, hd, e⟩ := planned_some (l := l) hne
      rw [hl] at e
      rw [hl, e]
      refine ⟨0, d, rfl, ⟨rfl, fun k hk => by omega⟩, fun v hv => ?_, rfl⟩
      simp at hv
      subst hv
      exact Nat.le_refl _
    · have hs2 : ¬ sideOf x (playerToMove x p) = side := hs
      rw [if_neg hs, if_neg hs2, hl]
      obtain ⟨j', c', h1, h2, h3, h4⟩ := fold_first (fun c => planValueFrom x side l n (playCard x p c)) r ((planValueFrom x side l n (playCard x p a)).1, a :: (planValueFrom x side l n (playCard x p a)).2) [a] 0 a rfl rfl ⟨rfl, fun k hk => by omega⟩ (fun e he => by
        rw [List.mem_singleton] at he; subst he; exact Nat.le_refl _)
      have h2' := h2
      rw [h2']
      refine ⟨j', c', h1, h3, fun v hv => ?_, rfl⟩
      obtain ⟨e, he, rfl⟩ := List.mem_map.mp hv
      exact h4 e he
theorem plan_over {side : Nat} {l : List Nat} (g : Good x p) (h : isOver p = true) : planP x side l p = ptsOf side p := by
  unfold planP
  rw [(left_over g).mp h]
  rfl
/-- the card of the plan's line; the positions along it -/
def lineC (x : Deal) (side : Nat) (l : List Nat) (p : Position) : Nat := (planValueFrom x side l (cardsToPlay p) p).2.headD 0
def posL (x : Deal) (side : Nat) (l : List Nat) : Nat → Position → Position
  | 0, p => p
  | n + 1, p => posL x side l n (playCard x p (lineC x side l p))
theorem posL_succ {side : Nat} {l : List Nat} : ∀ (n : Nat) (p : Position), posL x side l (n + 1) p = playCard x (posL x side l n p) (lineC x side l (posL x side l n p))
  | 0, _ => rfl
  | n + 1, p => posL_succ n (playCard x p (lineC x side l p))
theorem line_card {side : Nat} {l : List Nat} (g : Good x p) {n : Nat} (h : cardsToPlay p = n + 1) : ∃ j, (byPlan x p side l)[j]? = some (lineC x side l p) ∧ FirstAt (planVals x side l p) (planP x side l p) j ∧ (∀ v ∈ planVals x side l p, planP x side l p ≤ v) ∧ lineC x side l p ∈ legalCards x p := by
  obtain ⟨j, c, h1, h2, h3, h4⟩ := plan_step (side := side) (l := l) g h
  have e : lineC x side l p = c := by unfold lineC; rw [h, h4]; rfl
  rw [e]
  exact ⟨j, h1, h2, h3, (byPlan_sub (legal_ne (hand_ne g (over_of_left g h)))).2 c (List.mem_of_getElem? h1)⟩
theorem posL_good {side : Nat} {l : List Nat} : ∀ (n : Nat) {p : Position}, Good x p → n ≤ cardsToPlay p → Good x (posL x side l n p) ∧ cardsToPlay (posL x side l n p) + n = cardsToPlay p
  | 0, p, g, _ => ⟨g, rfl⟩
  | n + 1, p, g, h => by
    obtain ⟨j, _, _, _, hc⟩ := line_card (side := side) (l := l) g (n := cardsToPlay p - 1) (by omega)
    have hl := left_legal g hc
    obtain ⟨a, b⟩ := posL_good (side := side) (l := l) n (good_legal g hc) (by omega)
    exact ⟨a, by show cardsToPlay (posL x side l n (playCard x p (lineC x side l p))) + (n + 1) = _; omega⟩
theorem plan_line {side : Nat} {l : List Nat} : ∀ (n : Nat) {p : Position}, Good x p → cardsToPlay p = n → (planValueFrom x side l n p).2 = (List.range n).map fun i => lineC x side l (posL x side l i p)
  | 0, p, g, h => rfl
  | n + 1, p, g, h => by
    obtain ⟨j, c, h1, h2, h3, h4⟩ := plan_step (side := side) (l := l) g h
    have e : lineC x side l p = c := by unfold lineC; rw [h, h4]; rfl
    have hc : c ∈ legalCards x p := (byPlan_sub (legal_ne (hand_ne g (over_of_left g h)))).2 c (List.mem_of_getElem? h1)
    rw [h4, plan_line n (good_legal g hc) (by have := left_legal g hc; omega), List.range_succ_eq_map, List.map_cons, List.map_map]
    show c :: _ = lineC x side l p :: _
    rw [e]
    congr 1
    apply List.map_congr_left
    intro i _
    show lineC x side l (posL x side l i (playCard x p c)) = lineC x side l (posL x side l i (playCard x p (lineC x side l p)))
    rw [e]
end
end Fd

/-! # the program's own words: representatives, the card taken out, who wins, two cards exchanged -/
namespace Fd
open Vbndao
section
variable {x : Deal} {p : Position} {c d : Nat}
/-- are_equivalent, the first card smaller -/
def eqvP (x : Deal) (o : List Nat) (low high : Nat) : Bool := decide (low / 16 = high / 16) && (decide (cardValue x low = cardValue x high) && !(o.any fun e => decide (low < e) && decide (e < high)))
theorem eqv_is {o : List Nat} (hc : CardOk c) (hd : CardOk d) (ho : ∀ e ∈ o, CardOk e) (h : d < c) : eqvP x o d c = areEquivalent x o c d := by
  unfold eqvP areEquivalent suitOf rankOf
  by_cases e : d / 16 = c / 16
  · rw [decide_eq_true e, beq_iff_eq.mpr e.symm, Bool.true_and, Bool.true_and]
    congr 1
    · rw [Bool.eq_iff_iff, decide_eq_true_eq, beq_iff_eq]
      exact eq_comm
    · congr 1
      rw [Bool.eq_iff_iff, List.any_eq_true, List.any_eq_true]
      constructor
      · rintro ⟨z, hz, k⟩
        refine ⟨z, hz, ?_⟩
        simp only [Bool.and_eq_true, decide_eq_true_eq, beq_iff_eq] at k ⊢
        obtain ⟨c1, c2, c3⟩ := hc
        obtain ⟨d1, d2, d3⟩ := hd
        obtain ⟨z1, z2, z3⟩ := ho z hz
        omega
      · rintro ⟨z, hz, k⟩
        refine ⟨z, hz, ?_⟩
        simp only [Bool.and_eq_true, decide_eq_true_eq, beq_iff_eq] at k ⊢
        obtain ⟨c1, c2, c3⟩ := hc
        obtain ⟨d1, d2, d3⟩ := hd
        obtain ⟨z1, z2, z3⟩ := ho z hz
        omega
  · rw [decide_eq_false e, beq_eq_false_iff_ne.mpr (fun h => e h.symm), Bool.false_and, Bool.false_and]
theorem other_ok (g : Good x p) : ∀ e ∈ otherCards x p, CardOk e := fun e he => by
  rcases mem_other.mp he with h | ⟨j, h, hj, _, hm⟩
  · exact g.card e (List.mem_append_left _ h)
  · exact g.card e (List.mem_append_right _ (List.mem_flatten.mpr ⟨h, List.mem_of_getElem? hj, hm⟩))
theorem legal_ok (g : Good x p) (h : c ∈ legalCards x p) : CardOk c := g.card c (List.mem_append_right _ (List.mem_flatten.mpr ⟨_, hand_mem g, legal_sub h⟩))
/-- representatives, as the program has them: low runs through the legal cards below -/
def repP (x : Deal) (p : Position) : List Nat := (legalCards x p).filter fun c => !(((legalCards x p).filter fun d => decide (d < c)).map fun d => eqvP x (otherCards x p) d c).any id
theorem rep_is (g : Good x p) : repP x p = representatives x p (legalCards x p) := by
  unfold repP representatives
  refine List.filter_congr fun c hc => ?_
  congr 1
  rw [List.any_map, Bool.eq_iff_iff, List.any_eq_true, List.any_eq_true]
  constructor
  · rintro ⟨d, hd, k⟩
    obtain ⟨h1, h2⟩ := List.mem_filter.mp hd
    refine ⟨d, h1, ?_⟩
    have k : eqvP x (otherCards x p) d c = true := k
    rw [eqv_is (legal_ok g hc) (legal_ok g h1) (other_ok g) (of_decide_eq_true h2)] at k
    rw [Bool.and_eq_true]
    exact ⟨h2, k⟩
  · rintro ⟨d, hd, k⟩
    rw [Bool.and_eq_true] at k
    refine ⟨d, List.mem_filter.mpr ⟨hd, k.1⟩, ?_⟩
    show eqvP x (otherCards x p) d c = true
    rw [eqv_is (legal_ok g hc) (legal_ok g hd) (other_ok g) (of_decide_eq_true k.1)]
    exact k.2
/-- the other hands' cards as the program gathers them: hand by hand -/
theorem fold_ext {α β : Type} {f g : α → β → α} : ∀ {l : List β} {a : α}, (∀ a, ∀ b ∈ l, f a b = g a b) → l.foldl f a = l.foldl g a
  | [], _, _ => rfl
  | b :: l, a, h => by
    rw [List.foldl_cons, List.foldl_cons, h a b List.mem_cons_self]
    exact fold_ext fun a c hc => h a c (List.mem_cons_of_mem _ hc)
theorem other_is : otherCards x p = (List.range p.hands.length).foldl (fun a j => if j ≠ playerToMove x p then a ++ p.hands.getD j [] else a) p.trick := by
  unfold otherCards
  have key : ∀ (l : List (List Nat)) (k : Nat) (a : List Nat), a ++ ((l.zipIdx k).filter fun y => y.2 != playerToMove x p).flatMap (fun y => y.1) = (List.range' k l.length).foldl (fun a j => if j ≠ playerToMove x p then a ++ l.getD (j - k) [] else a) a := by
    intro l
    induction l with
    | nil => intro k a; simp
    | cons h r ih =>
      intro k a
      have hr : ∀ b : List Nat, (List.range' (k + 1) r.length).foldl (fun a j => if j ≠ playerToMove x p then a ++ (h :: r).getD (j - k) [] else a) b = (List.range' (k + 1) r.length).foldl (fun a j => if j ≠ playerToMove x p then a ++ r.getD (j - (k + 1)) [] else a) b := by
        intro b
        refine fold_ext fun a j hj => ?_
        obtain ⟨i, hi, e⟩ := List.mem_range'.mp hj
        rw [e, show k + 1 + 1 * i - k = i + 1 by omega, show k + 1 + 1 * i - (k + 1) = i by omega]
        rfl
      rw [List.zipIdx_cons, List.length_cons, List.range'_succ, List.foldl_cons, hr, ← ih, List.filter_cons, Nat.sub_self]
      by_cases e : k = playerToMove x p
      · rw [if_neg (by simp [e]), if_neg (by simp [e])]
      · rw [if_pos (by simp [e]), if_pos e, List.flatMap_cons, ← List.append_assoc]
        rfl
  have := key p.hands 0 p.trick
  rw [← List.range_eq_range'] at this
  simpa using this
/-! ### two cards exchanged -/
theorem seats_ex (x : Deal) (c d : Nat) : (exchangeCards x c d).seats = x.seats.map fun s => { s with cards := s.cards.map (sw c d) } := rfl
theorem hands_ex (x : Deal) (c d : Nat) : (exchangeCards x c d).seats.map (fun s => s.cards) = (x.seats.map fun s => s.cards).map fun h => h.map (sw c d) := by
  rw [seats_ex, List.map_map, List.map_map]
  rfl
theorem all_ex (x : Deal) (c d : Nat) : allCards (exchangeCards x c d) = (allCards x).map (sw c d) := by
  rw [all_flat, all_flat, hands_ex, List.map_flatten]
theorem perm_ex (o : DealOk x) (hc : c ∈ allCards x) (hd : d ∈ allCards x) : ((allCards x).map (sw c d)).Perm (allCards x) := by
  refine (List.perm_ext_iff_of_nodup ?_ o.nd).mpr fun a => ?_
  · exact List.Pairwise.map _ (fun a b hab e => hab (sw_inj e)) o.nd
  · constructor
    · intro ha
      obtain ⟨z, hz, rfl⟩ := List.mem_map.mp ha
      unfold sw
      split
      · exact hd
      · split
        · exact hc
        · exact hz
    · intro ha
      refine List.mem_map.mpr ⟨sw c d a, ?_, sw_sw c d a⟩
      unfold sw
      split
      · exact hd
      · split
        · exact hc
        · exact ha
theorem size_ex (x : Deal) (c d : Nat) : sizeOfDeal (exchangeCards x c d) = sizeOfDeal x := by
  unfold sizeOfDeal
  rw [seats_ex]
  cases x.seats with
  | nil => rfl
  | cons a r => show (a.cards.map _).length = _; rw [List.length_map]; rfl
theorem deal_ex (o : DealOk x) (hc : c ∈ allCards x) (hd : d ∈ allCards x) : DealOk (exchangeCards x c d) := by
  have hl : (exchangeCards x c d).seats.length = x.seats.length := by rw [seats_ex, List.length_map]
  have pm := perm_ex o hc hd
  have hm : ∀ s ∈ (exchangeCards x c d).seats, ∃ s0 ∈ x.seats, s.side = s0.side ∧ s.cards.length = s0.cards.length := fun s hs => by
    rw [seats_ex] at hs
    obtain ⟨s0, h0, rfl⟩ := List.mem_map.mp hs
    exact ⟨s0, h0, rfl, by show (s0.cards.map _).length = _; rw [List.length_map]⟩
  refine ⟨by rw [hl]; exact o.n2, by rw [hl]; exact o.n4, fun s hs => ?_, fun s hs => ?_, by rw [size_ex]; exact o.pos, by rw [size_ex, hl]; exact o.most, fun e he => ?_, ?_, by rw [hl]; exact o.lead, o.trump, o.ranks, o.ranksNd, o.nums⟩
  · obtain ⟨s0, h0, e1, _⟩ := hm s hs
    rw [e1]; exact o.side s0 h0
  · obtain ⟨s0, h0, _, e2⟩ := hm s hs
    rw [e2, size_ex]; exact o.len s0 h0
  · rw [all_ex] at he
    exact o.card e (pm.subset he)
  · rw [all_ex]
    exact pm.nodup_iff.mpr o.nd
theorem total_ex (o : DealOk x) (hc : c ∈ allCards x) (hd : d ∈ allCards x) : totalOf (exchangeCards x c d) = totalOf x := by
  unfold totalOf
  rw [size_ex, all_ex]
  have : valSum (exchangeCards x c d) ((allCards x).map (sw c d)) = valSum x (allCards x) := valSum_perm (x := x) (perm_ex o hc hd)
  rw [this]
  rfl
/-- the rules are the same -/
structure Rules (x y : Deal) : Prop where
  tr : y.trump = x.trump
  mr : y.mustRuff = x.mustRuff
  tv : y.trickValue = x.trickValue
  lb : y.lastTrickBonus = x.lastTrickBonus
  rv : y.rankValues = x.rankValues
  len : y.seats.length = x.seats.length
  sd : ∀ i, sideOf y i = sideOf x i
theorem rules_ex (x : Deal) (c d : Nat) : Rules x (exchangeCards x c d) := ⟨rfl, rfl, rfl, rfl, rfl, by rw [seats_ex, List.length_map], fun i => by
  unfold sideOf
  rw [seats_ex, List.getElem?_map]
  cases x.seats[i]? <;> rfl⟩
theorem Rules.ptm {y : Deal} (r : Rules x y) (p : Position) : playerToMove y p = playerToMove x p := by unfold playerToMove playerCount; rw [r.len]
theorem Rules.val {y : Deal} (r : Rules x y) : cardValue y = cardValue x := by funext c; unfold cardValue; rw [r.rv]
theorem Rules.legal {y : Deal} (r : Rules x y) (p : Position) : legalCards y p = legalCards x p := by unfold legalCards; rw [r.ptm, r.tr, r.mr]
theorem Rules.beats {y : Deal} (r : Rules x y) (a b : Nat) : Vbndao.beats y a b = Vbndao.beats x a b := by unfold Vbndao.beats; rw [r.tr]
theorem Rules.from_ {y : Deal} (r : Rules x y) : ∀ (l : List Nat) (k b top : Nat), winnerFrom y k b top l = winnerFrom x k b top l
  | [], _, _, _ => rfl
  | c :: l, k, b, top => by
    unfold winnerFrom
    rw [r.beats, r.from_ l, r.from_ l]
theorem Rules.play {y : Deal} (r : Rules x y) (p : Position) (c : Nat) : playCard y p c = playCard x p c := by
  have w : ∀ t, winnerIndex y t = winnerIndex x t := fun t => by
    cases t with
    | nil => rfl
    | cons a l => exact r.from_ l 1 0 a
  unfold playCard addScore
  simp only [r.ptm, r.val, w, r.sd, show playerCount y = playerCount x from r.len, show trickValueOf y = trickValueOf x by unfold trickValueOf; rw [r.tv], show lastTrickBonusOf y = lastTrickBonusOf x by unfold lastTrickBonusOf; rw [r.lb]]
theorem Rules.guar {y : Deal} (r : Rules x y) : ∀ (f : Nat) (p : Position), Fd.guar y f p = Fd.guar x f p
  | 0, _ => rfl
  | f + 1, p => by
    show pick (sideTo y p) _ = pick (sideTo x p) _
    have e : sideTo y p = sideTo x p := by unfold sideTo; rw [r.ptm, r.sd]
    rw [e, r.legal]
    congr 1
    exact List.map_congr_left fun c _ => by rw [r.play, r.guar f]
theorem Rules.good {y : Deal} (r : Rules x y) (hs : ∀ s ∈ x.seats, s.side ≤ 1) (g : Good y p) : Good x p := by
  have l := r.len
  exact ⟨by rw [← l]; exact g.n2, by rw [← l]; exact g.n4, hs, by rw [← l]; exact g.hands, by rw [← l]; exact g.lead, by rw [← l]; exact g.trick, g.card, g.nd, by rw [← l]; exact g.sizes⟩
theorem ex_value (o : DealOk x) (hc : c ∈ allCards x) (hd : d ∈ allCards x) : gameValue (exchangeCards x c d) (initialPosition (exchangeCards x c d)) = guarP x (initialPosition (exchangeCards x c d)) ∧ Good x (initialPosition (exchangeCards x c d)) ∧
    guarP x (initialPosition (exchangeCards x c d)) ≤ totalOf x ∧ totalPoints (exchangeCards x c d) (initialPosition (exchangeCards x c d)) = totalOf x := by
  have r := rules_ex x c d
  have o' := deal_ex o hc hd
  have g' := good_start o'
  have e1 : guarP (exchangeCards x c d) (initialPosition (exchangeCards x c d)) = guarP x (initialPosition (exchangeCards x c d)) := r.guar _ _
  have t := total_start o'
  rw [total_ex o hc hd] at t
  refine ⟨by rw [value_guar g', e1], r.good o.side g', ?_, t⟩
  rw [← e1, ← t]
  exact guarP_le g'
/-! ### who wins, as the program finds it -/
/-- the place of the first greatest strength -/
theorem win_place {t : List Nat} {c0 : Nat} {r : List Nat} (e : t = c0 :: r) (hok : ∀ e ∈ t, CardOk e) (hnd : t.Nodup) : ∃ m, FirstAt (t.map fun z => strength x z (c0 / 16)) m (winnerIndex x t) ∧ ∀ y ∈ t.map (fun z => strength x z (c0 / 16)), y ≤ m := by
  obtain ⟨w, h1, h2⟩ := winner_is e hok hnd (x := x)
  refine ⟨strength x w (c0 / 16), ⟨by rw [List.getElem?_map, h1]; rfl, fun k hk => ?_⟩, fun y hy => ?_⟩
  · rw [List.getElem?_map]
    cases q : t[k]? with
    | none => intro z; cases z
    | some z =>
      intro z2
      have := h2 k z q (by omega)
      have z2 : strength x z (c0 / 16) = strength x w (c0 / 16) := Option.some.inj z2
      omega
  · obtain ⟨z, hz, rfl⟩ := List.mem_map.mp hy
    obtain ⟨i, hi⟩ := List.mem_iff_getElem?.mp hz
    by_cases q : i = winnerIndex x t
    · subst q
      rw [h1] at hi
      cases hi
      exact Nat.le_refl _
    · exact Nat.le_of_lt (h2 i z hi q)
theorem win_lt {t : List Nat} {c0 : Nat} {r : List Nat} (e : t = c0 :: r) (hok : ∀ e ∈ t, CardOk e) (hnd : t.Nodup) : winnerIndex x t < t.length := by
  obtain ⟨w, h1, _⟩ := winner_is e hok hnd (x := x)
  exact (List.getElem?_eq_some_iff.mp h1).1
/-! ### the worths by rank -/
def worthsL (x : Deal) : List Nat := (List.range 14).map fun r => ((x.rankValues.find? fun y => y.1 == r).map fun y => y.2).getD 0
theorem worth_at (h : c % 16 ≤ 13) : (worthsL x)[c % 16]? = some (cardValue x c) := by
  unfold worthsL
  rw [List.getElem?_map, List.getElem?_range (by omega)]
  rfl
theorem worths_fold (h : (x.rankValues.map (·.1)).Nodup) (hr : ∀ y ∈ x.rankValues, y.1 ≤ 13) : x.rankValues.foldl (fun a y => a.set y.1 y.2) (List.replicate 14 0) = worthsL x := by
  have key : ∀ (l : List (Nat × Nat)) (a : List Nat), (l.map (·.1)).Nodup → (∀ y ∈ l, y.1 < a.length) → l.foldl (fun a y => a.set y.1 y.2) a = (List.range a.length).map fun r => ((l.find? fun y => y.1 == r).map fun y => y.2).getD (a.getD r 0) := by
    intro l
    induction l with
    | nil =>
      intro a _ _
      apply List.ext_getElem?
      intro i
      rw [List.getElem?_map]
      by_cases hi : i < a.length
      · rw [List.getElem?_range hi]
        simp [List.getD_eq_getElem?_getD, hi]
      · rw [List.getElem?_eq_none (by simpa using hi), List.getElem?_eq_none (by simpa using hi)]
        rfl
    | cons y l ih =>
      intro a hn hl
      have hn2 : y.1 ∉ l.map (·.1) ∧ (l.map (·.1)).Nodup := List.nodup_cons.mp hn
      rw [List.foldl_cons, ih _ hn2.2 (fun z hz => by rw [List.length_set]; exact hl z (List.mem_cons_of_mem _ hz)), List.length_set]
      apply List.map_congr_left
      intro r hrg
      have hra := List.mem_range.mp hrg
      rw [List.find?_cons]
      by_cases e : y.1 = r
      · have hf : l.find? (fun z => z.1 == r) = none := by
          rw [List.find?_eq_none]
          intro z hz hq
          exact hn2.1 (List.mem_map.mpr ⟨z, hz, by rw [e]; simpa using hq⟩)
        rw [hf, beq_iff_eq.mpr e]
        subst e
        simp [List.getD_eq_getElem?_getD, hra]
      · rw [beq_eq_false_iff_ne.mpr e]
        simp [List.getD_eq_getElem?_getD, List.getElem?_set, e]
  have := key x.rankValues (List.replicate 14 0) h (fun y hy => by rw [List.length_replicate]; have := hr y hy; omega)
  rw [this, List.length_replicate]
  unfold worthsL
  apply List.map_congr_left
  intro r hr2
  have := List.mem_range.mp hr2
  have e0 : (List.replicate 14 0).getD r 0 = 0 := by
    rw [List.getD_eq_getElem?_getD, List.getElem?_replicate]
    split <;> rfl
  rw [e0]
end
end Fd

/-! # the full trick as the program has it; the total -/
namespace Fd
open Vbndao
section
variable {x : Deal} {p : Position} {c d : Nat}
theorem full_all (g : Good x p) (hc : c ∈ handOf p (playerToMove x p)) (hf : ¬ p.trick.length + 1 < x.seats.length) {w : Nat} (hw : w = (p.leader + winnerIndex x (p.trick ++ [c])) % x.seats.length) :
    ((handsAfter x p c).all fun h => h.isEmpty) = decide ((handsAfter x p c).getD w [] = []) := by
  have g2 := good_play g hc
  rw [play_eq g, if_neg hf] at g2
  obtain ⟨m, _, _, _, h4⟩ := g2.sizes
  have hn := g.n2
  have h0 := h4 0 (by omega)
  have hl : (handsAfter x p c).length = x.seats.length := by rw [after_len, g.hands]
  have hwl : w < x.seats.length := by rw [hw]; exact Nat.mod_lt _ (by omega)
  have e0 : (fullAfter x p c).leader = w := hw.symm
  have e1 : (fullAfter x p c).hands = handsAfter x p c := rfl
  have e2 : (fullAfter x p c).trick = [] := rfl
  rw [e0, e1, e2, Nat.add_zero, Nat.mod_eq_of_lt hwl] at h0
  rw [e0, e1, e2] at h4
  rw [Bool.eq_iff_iff, List.all_eq_true, decide_eq_true_eq]
  constructor
  · intro h
    rw [List.getD_eq_getElem?_getD, List.getElem?_eq_getElem (by omega)]
    exact List.isEmpty_iff.mp (h _ (List.getElem_mem (by omega)))
  · intro h k hk
    rw [h] at h0
    obtain ⟨j, hj, rfl⟩ := List.getElem_of_mem hk
    obtain ⟨i, hi, ei⟩ := rot_onto (a := w) (j := j) hwl (by omega)
    have := h4 i hi
    rw [ei, List.getD_eq_getElem?_getD, List.getElem?_eq_getElem hj] at this
    rw [List.length_nil, if_neg (Nat.not_lt_zero _)] at this h0
    rw [List.isEmpty_iff]
    exact List.eq_nil_of_length_eq_zero (this.trans h0.symm)
theorem total_sum (x : Deal) : ((x.seats.map fun s => s.cards).map fun h => (h.map (cardValue x)).sum).sum = valSum x (allCards x) := by
  rw [all_flat]
  unfold valSum
  generalize (x.seats.map fun s => s.cards) = l
  induction l with
  | nil => rfl
  | cons a r ih => rw [List.map_cons, List.sum_cons, ih, List.flatten_cons, List.map_append, List.sum_append]
theorem good_hands (o : DealOk x) {h : List Nat} (hh : h ∈ x.seats.map fun s => s.cards) : h.length ≤ 4 ∧ ∀ c ∈ h, CardOk c := by
  refine ⟨?_, fun c hc => o.card c ?_⟩
  · obtain ⟨s, hs, rfl⟩ := List.mem_map.mp hh
    have := o.len s hs
    have := o.most
    omega
  · rw [all_flat]
    exact List.mem_flatten.mpr ⟨h, hh, hc⟩
end
end Fd

/-! # lines and words of a text -/
namespace Fd
open Vbndao
abbrev Tok := Vbndaa.Token
abbrev toksAt (p : Nat) (l : List Nat) : List Tok := Vbndaa.tokenizeWith Vbndao.noSeparators p l
/-- the words of a line that start at one of its places; b: whether a word may start at the first one -/
def wordsB : Bool → Nat → List Nat → List Tok
  | _, _, [] => []
  | b, p, c :: r => (if (c != 32 && b) = true then [⟨p, (c :: r).takeWhile (· != 32)⟩] else []) ++ wordsB (c == 32) (p + 1) r
theorem words_head {r : List Nat} {p d : Nat} (b : Bool) (h : d = 32) : wordsB b p (d :: r) = wordsB true p (d :: r) := by
  unfold wordsB
  subst h
  cases b <;> rfl
theorem toks_words : ∀ (l : List Nat) (p : Nat), toksAt p l = wordsB true p l
  | [], _ => rfl
  | c :: r, p => by
    have ih := toks_words r (p + 1)
    unfold toksAt Vbndaa.tokenizeWith
    by_cases hc : c = 32
    · rw [if_pos hc]
      show toksAt (p + 1) r = _
      rw [ih]
      subst hc
      rfl
    · have hcn : (c != 32) = true := by simpa using hc
      rw [if_neg hc, if_neg (by unfold Vbndao.noSeparators; decide)]
      cases r with
      | nil =>
        unfold wordsB
        rw [if_pos (by simpa using hc)]
        simp [wordsB, List.takeWhile, hcn]
      | cons d r =>
        dsimp only
        by_cases hd : d = 32
        · rw [if_pos (.inl hd)]
          show ⟨p, [c]⟩ :: toksAt (p + 1) (d :: r) = _
          rw [ih]
          conv => rhs; unfold wordsB
          rw [if_pos (by simpa using hc), words_head (c == 32) hd]
          subst hd
          simp [List.takeWhile, hcn]
        · have hd2 : ¬ (d = 32 ∨ Vbndao.noSeparators d = true) := by unfold Vbndao.noSeparators; simpa using hd
          rw [if_neg hd2]
          have e : Vbndaa.tokenizeWith Vbndao.noSeparators (p + 1) (d :: r) = ⟨p + 1, (d :: r).takeWhile (· != 32)⟩ :: wordsB (d == 32) (p + 2) r := by
            have : Vbndaa.tokenizeWith Vbndao.noSeparators (p + 1) (d :: r) = wordsB true (p + 1) (d :: r) := ih
            rw [this]
            conv => lhs; unfold wordsB
            rw [if_pos (by simpa using hd)]
            rfl
          rw [e]
          dsimp only
          conv => rhs; unfold wordsB
          rw [if_pos (by simpa using hc)]
          conv => rhs; unfold wordsB
          have hcb : (c == 32) = false := by simpa using hc
          rw [hcb, Bool.and_false, if_neg Bool.false_ne_true]
          simp [List.takeWhile, hcn]
/-- whether a word of the line from start on starts at place -/
def startB (t : List Nat) (place start : Nat) : Bool := (t.getD place 0 != 32) && (place == start || t.getD (place - 1) 0 == 32)
def wordAt (t : List Nat) (place e : Nat) : List Nat := ((t.drop place).take (e - place)).takeWhile (· != 32)
theorem words_range (t : List Nat) : ∀ (n s p : Nat) (b : Bool), p + n ≤ t.length → wordsB b p ((t.drop p).take n) = ((List.range n).filter fun k => (t.getD (p + k) 0 != 32) && (if k = 0 then b else t.getD (p + k - 1) 0 == 32)).map fun k => ⟨p + k, wordAt t (p + k) (p + n)⟩
  | 0, _, p, b, _ => by rw [List.take_zero]; rfl
  | n + 1, s, p, b, h => by
    have hp : p < t.length := by omega
    have e : (t.drop p).take (n + 1) = t[p] :: (t.drop (p + 1)).take n := by rw [List.drop_eq_getElem_cons hp, List.take_succ_cons]
    have g : t.getD p 0 = t[p] := by rw [List.getD_eq_getElem?_getD, List.getElem?_eq_getElem hp]; rfl
    rw [e]
    unfold wordsB
    rw [words_range t n s (p + 1) (t[p] == 32) (by omega), List.range_succ_eq_map, List.filter_cons, List.filter_map, ← e]
    have tl : ((List.range n).filter fun k => (t.getD (p + 1 + k) 0 != 32) && (if k = 0 then (t[p] == 32) else t.getD (p + 1 + k - 1) 0 == 32)).map (fun k => (⟨p + 1 + k, wordAt t (p + 1 + k) (p + 1 + n)⟩ : Tok)) =
        (((List.range n).filter ((fun k => (t.getD (p + k) 0 != 32) && (if k = 0 then b else t.getD (p + k - 1) 0 == 32)) ∘ Nat.succ)).map Nat.succ).map fun k => (⟨p + k, wordAt t (p + k) (p + (n + 1))⟩ : Tok) := by
      rw [List.map_map]
      have hf : (List.range n).filter (fun k => (t.getD (p + 1 + k) 0 != 32) && (if k = 0 then (t[p] == 32) else t.getD (p + 1 + k - 1) 0 == 32)) = (List.range n).filter ((fun k => (t.getD (p + k) 0 != 32) && (if k = 0 then b else t.getD (p + k - 1) 0 == 32)) ∘ Nat.succ) := by
        refine List.filter_congr fun k _ => ?_
        show _ = ((t.getD (p + (k + 1)) 0 != 32) && (if k + 1 = 0 then b else t.getD (p + (k + 1) - 1) 0 == 32))
        rw [if_neg (Nat.succ_ne_zero k), show p + (k + 1) = p + 1 + k by omega]
        congr 1
        by_cases hk : k = 0
        · subst hk
          rw [if_pos rfl, show p + 1 + 0 - 1 = p by omega, g]
        · rw [if_neg hk]
      rw [hf]
      refine List.map_congr_left fun k _ => ?_
      show _ = (⟨p + (k + 1), wordAt t (p + (k + 1)) (p + (n + 1))⟩ : Tok)
      rw [show p + (k + 1) = p + 1 + k by omega, show p + (n + 1) = p + 1 + n by omega]
    have g0 : t.getD (p + 0) 0 = t[p] := g
    rw [tl, if_pos rfl, g0]
    by_cases hc : (t[p] != 32 && b) = true
    · rw [if_pos hc, if_pos hc, List.map_cons]
      have e2 : wordAt t (p + 0) (p + (n + 1)) = ((t.drop p).take (n + 1)).takeWhile (· != 32) := by
        unfold wordAt
        rw [show p + (n + 1) - (p + 0) = n + 1 by omega]
        rfl
      rw [e2]
      rfl
    · rw [if_neg hc, if_neg hc]
      rfl
theorem toks_prog {t : List Nat} {s e : Nat} (h1 : s ≤ e) (h2 : e ≤ t.length) : ((List.range (e - s)).filter fun k => startB t (s + k) s).map (fun k => (⟨s + k, wordAt t (s + k) e⟩ : Tok)) = toksAt s ((t.drop s).take (e - s)) := by
  rw [toks_words, words_range t (e - s) s s true (by omega), show s + (e - s) = e by omega]
  congr 1
  refine List.filter_congr fun k _ => ?_
  unfold startB
  congr 1
  by_cases hk : k = 0
  · subst hk; simp
  · rw [if_neg hk, show (s + k == s) = false from beq_eq_false_iff_ne.mpr (by omega), Bool.false_or]
theorem wordAt_take (t : List Nat) (place e : Nat) : (t.drop place).take (wordAt t place e).length = wordAt t place e := by
  unfold wordAt
  generalize t.drop place = l
  have h : ∀ (l : List Nat) (n : Nat), l.take ((l.take n).takeWhile (· != 32)).length = (l.take n).takeWhile (· != 32) := by
    intro l
    induction l with
    | nil => intro n; simp
    | cons a r ih =>
      intro n
      cases n with
      | zero => rfl
      | succ n =>
        rw [List.take_succ_cons]
        by_cases ha : (a != 32) = true
        · rw [List.takeWhile_cons_of_pos (p := (· != 32)) ha, List.length_cons, List.take_succ_cons, ih]
        · rw [List.takeWhile_cons_of_neg (p := (· != 32)) ha]; rfl
  exact h l _
theorem wordAt_len (t : List Nat) (place e : Nat) : (wordAt t place e).length ≤ e - place := by
  unfold wordAt
  refine Nat.le_trans (List.takeWhile_sublist _).length_le ?_
  rw [List.length_take]
  omega
theorem tw_mem {p : Nat → Bool} {x : Nat} : ∀ {l : List Nat}, x ∈ l.takeWhile p → p x = true
  | [], h => by cases h
  | a :: r, h => by
    cases ha : p a with
    | true =>
      rw [List.takeWhile_cons_of_pos ha] at h
      rcases List.mem_cons.mp h with rfl | h
      · exact ha
      · exact tw_mem h
    | false =>
      rw [List.takeWhile_cons_of_neg (by rw [ha]; decide)] at h
      cases h
theorem wordAt_lt {t : List Nat} {place e k : Nat} (h2 : e ≤ t.length) (hk : k < (wordAt t place e).length) : t.getD (place + k) 0 ≠ 32 := by
  have h := wordAt_take t place e
  have hx : (wordAt t place e)[k]? = some (wordAt t place e)[k] := List.getElem?_eq_getElem hk
  have hm : (wordAt t place e)[k] ∈ wordAt t place e := List.getElem_mem hk
  generalize (wordAt t place e)[k] = v at hx hm
  have hp : (v != 32) = true := tw_mem (p := (· != 32)) (by unfold wordAt at hm; exact hm)
  rw [← h, List.getElem?_take_of_lt hk, List.getElem?_drop] at hx
  rw [List.getD_eq_getElem?_getD, hx]
  simpa using hp
theorem wordAt_end {t : List Nat} {place e : Nat} (h1 : place ≤ e) (h2 : e ≤ t.length) (h : (wordAt t place e).length < e - place) : t.getD (place + (wordAt t place e).length) 0 = 32 := by
  unfold wordAt at h ⊢
  have key : ∀ l : List Nat, (l.takeWhile (· != 32)).length < l.length → l[(l.takeWhile (· != 32)).length]? = some 32 := by
    intro l
    induction l with
    | nil => intro h; simp at h
    | cons a r ih =>
      intro h
      by_cases ha : (a != 32) = true
      · rw [List.takeWhile_cons_of_pos (p := (· != 32)) ha] at h ⊢
        rw [List.length_cons, List.getElem?_cons_succ]
        exact ih (by simpa using h)
      · rw [List.takeWhile_cons_of_neg (p := (· != 32)) ha]
        have : a = 32 := by simpa using ha
        subst this
        rfl
  have hl : ((t.drop place).take (e - place)).length = e - place := by rw [List.length_take, List.length_drop]; omega
  have k := key ((t.drop place).take (e - place)) (by omega)
  rw [List.getElem?_take_of_lt h, List.getElem?_drop] at k
  rw [List.getD_eq_getElem?_getD, k]
  rfl
/-! ### lines -/
def endsOf (t : List Nat) : List Nat := ((List.range t.length).filter fun i => t.getD i 0 == 10) ++ [t.length]
abbrev piecesAt (p : Nat) (t : List Nat) : List (Nat × List Nat) := Vbndaa.splitAtByte 10 p t
theorem pieces_cons (p : Nat) (t : List Nat) : ∃ w r, piecesAt p t = (p, w) :: r := by
  cases t with
  | nil => exact ⟨[], [], rfl⟩
  | cons c t =>
    unfold piecesAt Vbndaa.splitAtByte
    by_cases h : c = 10
    · rw [if_pos h]; exact ⟨_, _, rfl⟩
    · rw [if_neg h]
      cases Vbndaa.splitAtByte 10 (p + 1) t with
      | nil => exact ⟨_, _, rfl⟩
      | cons x l => exact ⟨_, _, rfl⟩
theorem pieces_ends : ∀ (t : List Nat) (p : Nat), (piecesAt p t).map (fun y => y.1 + y.2.length) = (endsOf t).map (p + ·)
  | [], p => rfl
  | c :: t, p => by
    have ih := pieces_ends t (p + 1)
    have he : endsOf (c :: t) = (if c = 10 then [0] else []) ++ (endsOf t).map (1 + ·) := by
      unfold endsOf
      rw [List.length_cons, List.range_succ_eq_map, List.filter_cons, List.filter_map, List.map_append]
      have h0 : ((c :: t).getD 0 0 == 10) = (c == 10) := rfl
      rw [h0]
      have h1 : ((fun i => (c :: t).getD i 0 == 10) ∘ Nat.succ) = fun i => t.getD i 0 == 10 := by funext i; rfl
      rw [h1]
      have h2 : (Nat.succ : Nat → Nat) = (1 + ·) := by funext i; exact Nat.succ_eq_one_add i
      rw [h2]
      by_cases h : c = 10
      · rw [if_pos (by simpa using h), if_pos h]
        simp [Nat.add_comm]
      · rw [if_neg (by simpa using h), if_neg h]
        simp [Nat.add_comm]
    rw [he]
    have hm : ((endsOf t).map (1 + ·)).map (p + ·) = (endsOf t).map ((p + 1) + ·) := by
      rw [List.map_map]
      refine List.map_congr_left fun i _ => ?_
      show p + (1 + i) = p + 1 + i
      omega
    rw [List.map_append, hm, ← ih]
    by_cases h : c = 10
    · have e0 : piecesAt p (c :: t) = (p, []) :: piecesAt (p + 1) t := by unfold piecesAt; conv => lhs; unfold Vbndaa.splitAtByte; rw [if_pos h]
      rw [if_pos h, e0]
      rfl
    · obtain ⟨w, r, e⟩ := pieces_cons (p + 1) t
      have e0 : piecesAt p (c :: t) = (p, c :: w) :: r := by
        have e : Vbndaa.splitAtByte 10 (p + 1) t = (p + 1, w) :: r := e
        unfold piecesAt
        conv => lhs; unfold Vbndaa.splitAtByte; rw [if_neg h, e]
      rw [if_neg h, e0, e, List.map_nil, List.nil_append, List.map_cons, List.map_cons, List.length_cons]
      congr 1
      show p + (w.length + 1) = p + 1 + w.length
      omega
/-- each piece lies where it says, and the next one starts behind the newline -/
theorem pieces_at : ∀ (t : List Nat) (p i : Nat) (y : Nat × List Nat), (piecesAt p t)[i]? = some y → p ≤ y.1 ∧ y.1 + y.2.length ≤ p + t.length ∧ y.2 = (t.drop (y.1 - p)).take y.2.length ∧ (i = 0 → y.1 = p) ∧ (∀ z, (piecesAt p t)[i + 1]? = some z → z.1 = y.1 + y.2.length + 1)
  | [], p, i, y, h => by
    match i, h with
    | 0, h =>
      cases h
      refine ⟨Nat.le_refl _, Nat.le_refl _, by simp, fun _ => rfl, fun z hz => by cases hz⟩
    | i + 1, h => cases h
  | c :: t, p, i, y, h => by
    have ih := pieces_at t (p + 1)
    obtain ⟨w, r, e⟩ := pieces_cons (p + 1) t
    by_cases hc : c = 10
    · have e0 : piecesAt p (c :: t) = (p, []) :: piecesAt (p + 1) t := by unfold piecesAt; conv => lhs; unfold Vbndaa.splitAtByte; rw [if_pos hc]
      rw [e0] at h ⊢
      match i, h with
      | 0, h =>
        cases h
        refine ⟨Nat.le_refl _, by simp, by simp, fun _ => rfl, fun z hz => ?_⟩
        rw [List.getElem?_cons_succ, e] at hz
        cases hz
        rfl
      | i + 1, h =>
        rw [List.getElem?_cons_succ] at h
        obtain ⟨a, b, d, f, g⟩ := ih i y h
        refine ⟨by omega, by rw [List.length_cons]; omega, ?_, fun h => absurd h (Nat.succ_ne_zero i), fun z hz => g z (by rw [List.getElem?_cons_succ] at hz; exact hz)⟩
        rw [show y.1 - p = (y.1 - (p + 1)) + 1 by omega, List.drop_succ_cons]
        exact d
    · have e0 : piecesAt p (c :: t) = (p, c :: w) :: r := by
        have e : Vbndaa.splitAtByte 10 (p + 1) t = (p + 1, w) :: r := e
        unfold piecesAt
        conv => lhs; unfold Vbndaa.splitAtByte; rw [if_neg hc, e]
      rw [e0] at h ⊢
      match i, h with
      | 0, h =>
        cases h
        obtain ⟨a, b, d, f, g⟩ := ih 0 (p + 1, w) (by rw [e]; rfl)
        dsimp only at a b d f g ⊢
        refine ⟨Nat.le_refl _, by rw [List.length_cons, List.length_cons]; omega, ?_, fun _ => rfl, fun z hz => ?_⟩
        · rw [Nat.sub_self, List.drop_zero, List.length_cons, List.take_succ_cons]
          rw [Nat.sub_self, List.drop_zero] at d
          exact congrArg _ d
        · rw [g z (by rw [e]; exact hz), List.length_cons]
          omega
      | i + 1, h =>
        obtain ⟨a, b, d, f, g⟩ := ih (i + 1) y (by rw [e]; exact h)
        refine ⟨by omega, by rw [List.length_cons]; omega, ?_, fun h => absurd h (Nat.succ_ne_zero i), fun z hz => g z (by rw [e]; exact hz)⟩
        rw [show y.1 - p = (y.1 - (p + 1)) + 1 by omega, List.drop_succ_cons]
        exact d
end Fd

namespace Fd
open PySem PySem.Spec PyProof.Rows L2
open Vbndao (Deal Position)
/-! ### the objects -/
def optI : Option Nat → Int
  | none => -1
  | some n => n
abbrev fPos (K : PySem.W.Frag) (p : Position) : List (Str × Dsc) := [("hands", dL (p.hands.map dNs)), ("trick", dNs p.trick), ("leader", dN p.leader), ("points", dT K [dN p.scores.1, dN p.scores.2])]
def dPos (K : PySem.W.Frag) (p : Position) : Dsc := dO (He.ga K "Position") (fPos K p)
abbrev fSheet (K : PySem.W.Frag) (x : Deal) : List (Str × Dsc) := [("trump", dI (optI x.trump)), ("is_ruff", dB x.mustRuff), ("trick", dI (optI x.trickValue)), ("last", dI (optI x.lastTrickBonus)), ("lead", dI (optI x.firstLeader)),
  ("worths", dL (x.rankValues.map fun y => dT K [dN y.1, dN y.2])), ("sides", dNs (x.seats.map fun s => s.side)), ("hands", dL (x.seats.map fun s => dNs s.cards))]
def dSheet (K : PySem.W.Frag) (x : Deal) : Dsc := dO (He.ga K "Sheet") (fSheet K x)
abbrev fDeal (K : PySem.W.Frag) (x : Deal) : List (Str × Dsc) := [("sheet", dSheet K x), ("trump", dI (optI x.trump)), ("is_ruff", dB x.mustRuff), ("trick_points", dN (Vbndao.trickValueOf x)), ("last_points", dN (Vbndao.lastTrickBonusOf x)), ("lead", dN (Vbndao.firstLeaderOf x)),
  ("worths", dNs (worthsL x)), ("sides", dNs (x.seats.map fun s => s.side)), ("hands", dL (x.seats.map fun s => dNs s.cards))]
def dDeal (K : PySem.W.Frag) (x : Deal) : Dsc := dO (He.ga K "Deal") (fDeal K x)
section
variable {K : PySem.W.Frag} {mg : Str → Option Value} {G : En} {W : Wd} {te ta tb : TE}
/-- a field of a frozen object: its name, by its place among the fields -/
theorem evp (C : Ctx K mg) {p : Position} {f : Str} {d : Dsc} (h : Ev te G W (dPos K p)) (hn : He.Fa.noat "Position" f ∈ fa) (hl : (fPos K p).lookup f = some d) : Ev (tFld K te f) G W d := ev_fld h (C.cls fc_Position) (C.noat hn) hl
theorem evd (C : Ctx K mg) {x : Deal} {f : Str} {d : Dsc} (h : Ev te G W (dDeal K x)) (hn : He.Fa.noat "Deal" f ∈ fa) (hl : (fDeal K x).lookup f = some d) : Ev (tFld K te f) G W d := ev_fld h (C.cls fc_Deal) (C.noat hn) hl
theorem evs (C : Ctx K mg) {x : Deal} {f : Str} {d : Dsc} (h : Ev te G W (dSheet K x)) (hn : He.Fa.noat "Sheet" f ∈ fa) (hl : (fSheet K x).lookup f = some d) : Ev (tFld K te f) G W d := ev_fld h (C.cls fc_Sheet) (C.noat hn) hl
/-- xs == [] of ints -/
theorem shape_ns (l : List Int) : SeqAt.shaped (.list (l.map PyData.int)) = true := by
  have h1 : ∀ l : List Int, PyData.canLayAll0 (l.map PyData.int) = true := by
    intro l
    induction l with
    | nil => rfl
    | cons a r ih => rw [List.map_cons]; unfold PyData.canLayAll0; rw [ih]; rfl
  have h2 : ∀ l : List Int, PyData.depthAll (l.map PyData.int) ≤ 1 := by
    intro l
    induction l with
    | nil => simp [PyData.depthAll]
    | cons a r ih => rw [List.map_cons]; unfold PyData.depthAll; simp [PyData.depth]; omega
  unfold SeqAt.shaped
  rw [Bool.and_eq_true, decide_eq_true_eq]
  refine ⟨by unfold PyData.canLay0; exact h1 l, ?_⟩
  have := h2 l
  unfold PyData.depth
  omega
end
end Fd

namespace Fd
open PySem PySem.Spec PyProof.Rows L2
open Vbndao (Deal Position)
section
variable {K : PySem.W.Frag} {mg : Str → Option Value}
theorem szl {n : Nat} (h : n ≤ 100000) : n < sizeLine := Nat.lt_of_le_of_lt h (by decide)
theorem szk {n : Nat} (h : n ≤ 100000) : n ≤ sizeLine := Nat.le_trans h (by decide)
theorem sum_nat_int : ∀ l : List Nat, (l.map fun (n : Nat) => (n : Int)).sum = ((l.sum : Nat) : Int)
  | [] => rfl
  | a :: r => by rw [List.map_cons, List.sum_cons, sum_nat_int r, List.sum_cons, Int.natCast_add]
def sp_worth (K : PySem.W.Frag) : Sp := spOf (fun a : Deal × Nat => a.2 % 16 ≤ 13) (fun a => [dDeal K a.1, dN a.2]) (fun a => dN (Vbndao.cardValue a.1 a.2))
/-! worth -/
def N_worth : List Str := ["deal", "card"]
theorem sc_worth : FnScope ["deal", "card"] ["deal", "card"] (defScope s_worth) := ⟨rfl, rfl, rfl, by decide +kernel, rfl, by decide +kernel, by decide +kernel⟩
theorem nm_worth : nmB ["deal", "card"] (defScope s_worth) [0, 1] [] [] = true := by decide +kernel
def t_worth (K : PySem.W.Frag) : TS := tRet (tOp (rIxL K) (tFld K (tVar 0) "worths") (tOp oMod (tVar 1) (tC (.int 16))))
theorem dv_worth {X : Cx} (o0 : On fa X ["deal", "card"] (defScope s_worth)) (hf : ∀ x, X.fn x = true) : PSs X (defBody s_worth) (t_worth X.K) := by
  have n0 := nm_worth
  exact pss_one (ps_ret (pe_ix ix_list (pe_fld (av o0 n0 0 (gm 0 rfl) rfl) rfl) (pe_op op_mod (av o0 n0 1 (gm 1 rfl) rfl) (pe_int)) (fun _ _ => rfl)))
theorem ev_worth (C : Ctx K mg) : ∀ a : Deal × Nat, a.2 % 16 ≤ 13 → ∀ W, Rt (t_worth K) (envOf ["deal", "card"] [dDeal K a.1, dN a.2]) W (rD (dN (Vbndao.cardValue a.1 a.2))) := fun a h W => by
  refine rt_ret (ev_ixL (j := a.2 % 16) (evd C ev_var fn_Deal_worths rfl) (ev_modN (k := 16) ev_var ev_c (by decide)) ?_)
  rw [List.getElem?_map, worth_at h]
  rfl
theorem ok_worth {P : Program} {w : World} {K : PySem.W.Frag} {mg : Str → Option Value} {base : Heap} (C : Ctx K mg) : Ok P w K mg base 1 "worth" ["deal", "card"] (sp_worth K) :=
  ok_gen C 21 rfl rfl sc_worth fg_worth (fun _ _ _ _ _ _ hr o => dv_worth o (fun _ => rfl)) (fun _ _ _ _ _ _ us hl => match us, hl with | [_, _], _ => rfl) (len_of fun _ => rfl) fun _ _ _ _ h => reads_of (ev_worth C) h
def sp_cards_left (K : PySem.W.Frag) : Sp := spOf (fun a : Position => a.hands.length ≤ 4) (fun a => [dPos K a]) (fun a => dN (Vbndao.cardsToPlay a))
/-! cards_left -/
def N_cards_left : List Str := ["position", "hand"]
theorem sc_cards_left : FnScope ["position", "hand"] ["position"] (defScope s_cards_left) := ⟨rfl, rfl, rfl, by decide +kernel, rfl, by decide +kernel, by decide +kernel⟩
theorem nm_cards_left : nmB ["position", "hand"] (defScope s_cards_left) [0] [] ["sum"] = true := by decide +kernel
def t_cards_left (K : PySem.W.Frag) : TS := tRet (tCB (rSum K) (tCons (tLc (iList K (tFld K (tVar 0) "hands")) (gName 1) (tYes) (tCB (cLen K) (tCons (tVar 1) (tNil))) [1]) (tNil)))
theorem dv_cards_left {X : Cx} (o0 : On fa X ["position", "hand"] (defScope s_cards_left)) (hf : ∀ x, X.fn x = true) : PSs X (defBody s_cards_left) (t_cards_left X.K) := by
  have n0 := nm_cards_left
  exact pss_one (ps_ret (acb o0 n0 (cr_sum o0.calm) (by decide +kernel) (pa_cons (pe_lc (own := [("hand", 1)]) o0.calm o0.nd (pi_list (pe_fld (av o0 n0 0 (gm 0 rfl) rfl) rfl)) (o0.ok (own := [("hand", 1)]) (by decide +kernel)) (fun s1 H1 C1 l1 p1 => let o1 := o0.blk s1 H1 _ C1 l1 p1; agb o1 1 rfl (by decide +kernel)) (fun _ _ _ _ _ => pts_nil) (fun s1 H1 C1 l1 p1 => (fun (n1 : nmB _ (relS _ _) [1] [] ["len"] = true) => let o1 := o0.blk s1 H1 _ C1 l1 p1; acb o1 n1 call_len_seq (by decide +kernel) (pa_cons (av o1 n1 1 (gm 0 rfl) rfl) (pa_nil)) (gm 0 rfl) f_len) (by decide +kernel))) (pa_nil)) (gm 0 rfl) f_sum))
theorem ev_cards_left (C : Ctx K mg) : ∀ a : Position, a.hands.length ≤ 4 → ∀ W, Rt (t_cards_left K) (envOf ["position", "hand"] [dPos K a]) W (rD (dN (Vbndao.cardsToPlay a))) := fun a h W => by
  refine rt_ret (Ev.to (ev_sum (ns := a.hands.map fun l => ((l.length : Nat) : Int)) (EvO.ev (EvO.to (evO_lcm a.hands dNs (fun l => dN l.length) (fun l G => G.set 1 (some (.pl (dNs l)))) [1] (ei_list (evp C ev_var fn_Position_hands rfl)) (fun l _ => tg_name) (fun l _ => ?_) (fun j h => h) (szl (by omega))) ?_))) ?_)
  · exact (ev_lenL (ds := l.map dN) rfl ev_var).to (by rw [List.length_map])
  · rw [List.map_map]; rfl
  · have e := sum_nat_int (a.hands.map (·.length))
    rw [List.map_map] at e
    rw [left_eq]
    exact congrArg dI e
theorem ok_cards_left {P : Program} {w : World} {K : PySem.W.Frag} {mg : Str → Option Value} {base : Heap} (C : Ctx K mg) : Ok P w K mg base 1 "cards_left" ["position"] (sp_cards_left K) :=
  ok_gen C 24 rfl rfl sc_cards_left fg_cards_left (fun _ _ _ _ _ _ hr o => dv_cards_left o (fun _ => rfl)) (fun _ _ _ _ _ _ us hl => match us, hl with | [_], _ => rfl) (len_of fun _ => rfl) fun _ _ _ _ h => reads_of (ev_cards_left C) h
def sp_is_over (K : PySem.W.Frag) : Sp := spOf (fun a : Position => a.hands.length ≤ 4) (fun a => [dPos K a]) (fun a => dB (Vbndao.isOver a))
/-! is_over -/
def N_is_over : List Str := ["position"]
theorem sc_is_over : FnScope ["position"] ["position"] (defScope s_is_over) := ⟨rfl, rfl, rfl, by decide +kernel, rfl, by decide +kernel, by decide +kernel⟩
theorem nm_is_over : nmB ["position"] (defScope s_is_over) [0] [] ["cards_left"] = true := by decide +kernel
def t_is_over (K : PySem.W.Frag) : TS := tRet (tAndV (tOp (rEqD K) (tFld K (tVar 0) "trick") (tLst (tNil))) (tOp rEq (tCall (sp_cards_left K) [] E0 (tCons (tVar 0) (tNil))) (tC (.int 0))))
theorem dv_is_over {X : Cx} (o0 : On fa X ["position"] (defScope s_is_over)) (hf : ∀ x, X.fn x = true) (c_cards_left : Cal X "cards_left" (sp_cards_left X.K)) : PSs X (defBody s_is_over) (t_is_over X.K) := by
  have n0 := nm_is_over
  exact pss_one (ps_ret (pe_and (pe_cmpR (op_eqD o0.hu) (pe_fld (av o0 n0 0 (gm 0 rfl) rfl) rfl) (pe_lst (pa_nil)) (nomark _)) (pe_one (pe_cmpR op_eq (acall o0 n0 c_cards_left (pa_cons (av o0 n0 0 (gm 0 rfl) rfl) (pa_nil)) (gm 0 rfl)) (pe_int) (nomark _)))))
theorem dat_ns (l : List Nat) : IsDat K (dNs l) (.list ((l.map fun (n : Nat) => (n : Int)).map PyData.int)) := by
  rw [List.map_map]
  exact isDat_Lm l fun a => isDat_int
theorem ev_isNil {l : List Nat} {G : En} {W : Wd} {ta : TE} (h : Ev ta G W (dNs l)) : Ev (tOp (rEqD K) ta (tLst tNil)) G W (dB l.isEmpty) := by
  refine (ev_eqD h (EvO.ev (evO_lst ea_nil)) (dat_ns l) (isDat_Lm (f := dN) (g := fun n => PyData.int n) [] fun a => isDat_int) (shape_ns _) (shape_ns [])).to ?_
  show dB (PyData.eqv _ (.list [])) = _
  rw [eqv_nil, List.isEmpty_map, List.isEmpty_map]
theorem ev_noNil {l : List Nat} {G : En} {W : Wd} {ta : TE} (h : Ev ta G W (dNs l)) : Ev (tOp (rNeD K) ta (tLst tNil)) G W (dB (!l.isEmpty)) := by
  refine (ev_neD h (EvO.ev (evO_lst ea_nil)) (dat_ns l) (isDat_Lm (f := dN) (g := fun n => PyData.int n) [] fun a => isDat_int) (shape_ns _) (shape_ns [])).to ?_
  show dB (!PyData.eqv _ (.list [])) = _
  rw [eqv_nil, List.isEmpty_map, List.isEmpty_map]
theorem ev_is_over (C : Ctx K mg) : ∀ a : Position, a.hands.length ≤ 4 → ∀ W, Rt (t_is_over K) (envOf ["position"] [dPos K a]) W (rD (dB (Vbndao.isOver a))) := fun a h W => by
  refine rt_ret (Ev.to (ev_and (ev_isNil (l := a.trick) (evp C ev_var fn_Position_trick rfl)) fun _ => ev_eqI (ev_call a h (ea_cons ev_var ea_nil)) ev_c) ?_)
  rw [over_eq]
  exact congrArg dB (congrArg (a.trick.isEmpty && ·) (decide_eq_decide.mpr (by omega)))
theorem ok_is_over {P : Program} {w : World} {K : PySem.W.Frag} {mg : Str → Option Value} {base : Heap} (C : Ctx K mg) : Ok P w K mg base 2 "is_over" ["position"] (sp_is_over K) :=
  ok_gen C 25 rfl rfl sc_is_over fg_is_over (fun _ _ _ _ _ _ hr o => dv_is_over o (fun _ => rfl) ((ok_cards_left C).cal hr (by decide))) (fun _ _ _ _ _ _ us hl => match us, hl with | [_], _ => rfl) (len_of fun _ => rfl) fun _ _ _ _ h => reads_of (ev_is_over C) h
def seatOf (p : Position) : Nat := (p.leader + p.trick.length) % p.hands.length
def sp_seat_to_move (K : PySem.W.Frag) : Sp := spOf (fun a : Position => 0 < a.hands.length) (fun a => [dPos K a]) (fun a => dN (seatOf a))
theorem ev_lenM {G : En} {W : Wd} {te : TE} {α : Type} {f : α → Dsc} {l : List α} (h : Ev te G W (dL (l.map f))) : Ev (tCB (cLen K) (tCons te tNil)) G W (dN l.length) := (ev_lenL rfl h).to (by rw [List.length_map])
/-! seat_to_move -/
def N_seat_to_move : List Str := ["position"]
theorem sc_seat_to_move : FnScope ["position"] ["position"] (defScope s_seat_to_move) := ⟨rfl, rfl, rfl, by decide +kernel, rfl, by decide +kernel, by decide +kernel⟩
theorem nm_seat_to_move : nmB ["position"] (defScope s_seat_to_move) [0] [] ["len"] = true := by decide +kernel
def t_seat_to_move (K : PySem.W.Frag) : TS := tRet (tOp oMod (tOp oAdd (tFld K (tVar 0) "leader") (tCB (cLen K) (tCons (tFld K (tVar 0) "trick") (tNil)))) (tCB (cLen K) (tCons (tFld K (tVar 0) "hands") (tNil))))
theorem dv_seat_to_move {X : Cx} (o0 : On fa X ["position"] (defScope s_seat_to_move)) (hf : ∀ x, X.fn x = true) : PSs X (defBody s_seat_to_move) (t_seat_to_move X.K) := by
  have n0 := nm_seat_to_move
  exact pss_one (ps_ret (pe_op op_mod (pe_op op_add (pe_fld (av o0 n0 0 (gm 0 rfl) rfl) rfl) (acb o0 n0 call_len_seq (by decide +kernel) (pa_cons (pe_fld (av o0 n0 0 (gm 0 rfl) rfl) rfl) (pa_nil)) (gm 0 rfl) f_len)) (acb o0 n0 call_len_seq (by decide +kernel) (pa_cons (pe_fld (av o0 n0 0 (gm 0 rfl) rfl) rfl) (pa_nil)) (gm 0 rfl) f_len)))
theorem ev_seat_to_move (C : Ctx K mg) : ∀ a : Position, 0 < a.hands.length → ∀ W, Rt (t_seat_to_move K) (envOf ["position"] [dPos K a]) W (rD (dN (seatOf a))) := fun a h W =>
  rt_ret (ev_modN (ev_addN (evp C ev_var fn_Position_leader rfl) (ev_lenM (evp C ev_var fn_Position_trick rfl))) (ev_lenM (evp C ev_var fn_Position_hands rfl)) h)
theorem ok_seat_to_move {P : Program} {w : World} {K : PySem.W.Frag} {mg : Str → Option Value} {base : Heap} (C : Ctx K mg) : Ok P w K mg base 1 "seat_to_move" ["position"] (sp_seat_to_move K) :=
  ok_gen C 26 rfl rfl sc_seat_to_move fg_seat_to_move (fun _ _ _ _ _ _ hr o => dv_seat_to_move o (fun _ => rfl)) (fun _ _ _ _ _ _ us hl => match us, hl with | [_], _ => rfl) (len_of fun _ => rfl) fun _ _ _ _ h => reads_of (ev_seat_to_move C) h
theorem seat_good {x : Deal} {p : Position} (g : Good x p) : 0 < p.hands.length ∧ seatOf p = Vbndao.playerToMove x p := by
  have hn := g.n2
  have hh := g.hands
  refine ⟨by omega, ?_⟩
  rw [ptm_eq g]
  unfold seatOf
  rw [g.hands]
def sp_side_to_move (K : PySem.W.Frag) : Sp := spOf (fun a : Deal × Position => Good a.1 a.2) (fun a => [dDeal K a.1, dPos K a.2]) (fun a => dN (sideTo a.1 a.2))
/-! side_to_move -/
def N_side_to_move : List Str := ["deal", "position"]
theorem sc_side_to_move : FnScope ["deal", "position"] ["deal", "position"] (defScope s_side_to_move) := ⟨rfl, rfl, rfl, by decide +kernel, rfl, by decide +kernel, by decide +kernel⟩
theorem nm_side_to_move : nmB ["deal", "position"] (defScope s_side_to_move) [0, 1] [] ["seat_to_move"] = true := by decide +kernel
def t_side_to_move (K : PySem.W.Frag) : TS := tRet (tOp (rIxL K) (tFld K (tVar 0) "sides") (tCall (sp_seat_to_move K) [] E0 (tCons (tVar 1) (tNil))))
theorem dv_side_to_move {X : Cx} (o0 : On fa X ["deal", "position"] (defScope s_side_to_move)) (hf : ∀ x, X.fn x = true) (c_seat_to_move : Cal X "seat_to_move" (sp_seat_to_move X.K)) : PSs X (defBody s_side_to_move) (t_side_to_move X.K) := by
  have n0 := nm_side_to_move
  exact pss_one (ps_ret (pe_ix ix_list (pe_fld (av o0 n0 0 (gm 0 rfl) rfl) rfl) (acall o0 n0 c_seat_to_move (pa_cons (av o0 n0 1 (gm 1 rfl) rfl) (pa_nil)) (gm 0 rfl)) (fun _ _ => rfl)))
theorem ev_side_to_move (C : Ctx K mg) : ∀ a : Deal × Position, Good a.1 a.2 → ∀ W, Rt (t_side_to_move K) (envOf ["deal", "position"] [dDeal K a.1, dPos K a.2]) W (rD (dN (sideTo a.1 a.2))) := fun ⟨x, p⟩ g W => by
  refine rt_ret (ev_ixL (j := seatOf p) (evd C ev_var fn_Deal_sides rfl) (ev_call p (seat_good g).1 (ea_cons ev_var ea_nil)) ?_)
  rw [(seat_good g).2, List.getElem?_map, List.getElem?_map]
  unfold sideTo Vbndao.sideOf
  rw [List.getElem?_eq_getElem (ptm_lt g)]
  rfl
theorem ok_side_to_move {P : Program} {w : World} {K : PySem.W.Frag} {mg : Str → Option Value} {base : Heap} (C : Ctx K mg) : Ok P w K mg base 2 "side_to_move" ["deal", "position"] (sp_side_to_move K) :=
  ok_gen C 27 rfl rfl sc_side_to_move fg_side_to_move (fun _ _ _ _ _ _ hr o => dv_side_to_move o (fun _ => rfl) ((ok_seat_to_move C).cal hr (by decide))) (fun _ _ _ _ _ _ us hl => match us, hl with | [_, _], _ => rfl) (len_of fun _ => rfl) fun _ _ _ _ h => reads_of (ev_side_to_move C) h
def sp_cards_of_suit (K : PySem.W.Frag) : Sp := spOf (fun a : List Nat × Int => a.1.length ≤ 100) (fun a => [dNs a.1, dI a.2]) (fun a => dNs (a.1.filter fun (c : Nat) => decide (((c / 16 : Nat) : Int) = a.2)))
/-! cards_of_suit -/
def N_cards_of_suit : List Str := ["hand", "suit", "card"]
theorem sc_cards_of_suit : FnScope ["hand", "suit", "card"] ["hand", "suit"] (defScope s_cards_of_suit) := ⟨rfl, rfl, rfl, by decide +kernel, rfl, by decide +kernel, by decide +kernel⟩
theorem nm_cards_of_suit : nmB ["hand", "suit", "card"] (defScope s_cards_of_suit) [0] [] [] = true := by decide +kernel
def t_cards_of_suit (K : PySem.W.Frag) : TS := tRet (tLc (iList K (tVar 0)) (gName 2) (tTest (tOp rEq (tOp oDiv (tVar 2) (tC (.int 16))) (tVar 1))) (tVar 2) [2])
theorem dv_cards_of_suit {X : Cx} (o0 : On fa X ["hand", "suit", "card"] (defScope s_cards_of_suit)) (hf : ∀ x, X.fn x = true) : PSs X (defBody s_cards_of_suit) (t_cards_of_suit X.K) := by
  have n0 := nm_cards_of_suit
  exact pss_one (ps_ret (pe_lc (own := [("card", 2)]) o0.calm o0.nd (pi_list (av o0 n0 0 (gm 0 rfl) rfl)) (o0.ok (own := [("card", 2)]) (by decide +kernel)) (fun s1 H1 C1 l1 p1 => let o1 := o0.blk s1 H1 _ C1 l1 p1; agb o1 2 rfl (by decide +kernel)) (fun s1 H1 C1 l1 p1 => (fun (n1 : nmB _ (relS _ _) [2, 1] [] [] = true) => let o1 := o0.blk s1 H1 _ C1 l1 p1; pts_one (pt_cmpR op_eq (pe_op op_fdiv (av o1 n1 2 (gm 0 rfl) rfl) (pe_int)) (av o1 n1 1 (gm 1 rfl) rfl) (nomark _))) (by decide +kernel)) (fun s1 H1 C1 l1 p1 => (fun (n1 : nmB _ (relS _ _) [2, 1] [] [] = true) => let o1 := o0.blk s1 H1 _ C1 l1 p1; av o1 n1 2 (gm 0 rfl) rfl) (by decide +kernel))))
theorem ev_cards_of_suit (C : Ctx K mg) : ∀ a : List Nat × Int, a.1.length ≤ 100 → ∀ W, Rt (t_cards_of_suit K) (envOf ["hand", "suit", "card"] [dNs a.1, dI a.2]) W (rD (dNs (a.1.filter fun (c : Nat) => decide (((c / 16 : Nat) : Int) = a.2)))) := fun ⟨l, s⟩ h W =>
  rt_frz (rt_retO (evO_lc l dN (fun (c : Nat) => decide (((c / 16 : Nat) : Int) = s)) dN (fun c G => G.set 2 (some (.pl (dN c)))) [2] (ei_list ev_var) (fun _ _ => tg_name) (fun c _ => et_test (ev_eqI (ev_divN (k := 16) ev_var ev_c (by decide)) ev_var)) (fun c _ _ => ev_var) (fun j h => h) (szl (Nat.le_trans h (by decide)))))
theorem ok_cards_of_suit {P : Program} {w : World} {K : PySem.W.Frag} {mg : Str → Option Value} {base : Heap} (C : Ctx K mg) : Ok P w K mg base 1 "cards_of_suit" ["hand", "suit"] (sp_cards_of_suit K) :=
  ok_gen C 28 rfl rfl sc_cards_of_suit fg_cards_of_suit (fun _ _ _ _ _ _ hr o => dv_cards_of_suit o (fun _ => rfl)) (fun _ _ _ _ _ _ us hl => match us, hl with | [_, _], _ => rfl) (len_of fun _ => rfl) fun _ _ _ _ h => reads_of (ev_cards_of_suit C) h
def sp_legal_cards (K : PySem.W.Frag) : Sp := spOf (fun a : Deal × Position => Good a.1 a.2) (fun a => [dDeal K a.1, dPos K a.2]) (fun a => dNs (Vbndao.legalCards a.1 a.2))
/-! legal_cards -/
def N_legal_cards : List Str := ["deal", "position", "hand", "following", "trumps"]
theorem sc_legal_cards : FnScope ["deal", "position", "hand", "following", "trumps"] ["deal", "position"] (defScope s_legal_cards) := ⟨rfl, rfl, rfl, by decide +kernel, rfl, by decide +kernel, by decide +kernel⟩
theorem nm_legal_cards : nmB ["deal", "position", "hand", "following", "trumps"] (defScope s_legal_cards) [1, 2, 3, 0, 4] [2, 3, 4] ["seat_to_move", "list", "cards_of_suit"] = true := by decide +kernel
def t_legal_cards (K : PySem.W.Frag) : TS := tSeq (tAsg (tOp (rIxL K) (tFld K (tVar 1) "hands") (tCall (sp_seat_to_move K) [] E0 (tCons (tVar 1) (tNil)))) (gName 2)) (tSeq (tIfS (tTest (tOp (rEqD K) (tFld K (tVar 1) "trick") (tLst (tNil)))) (tRet (tCB (cList K) (tCons (tVar 2) (tNil)))) (tNext)) (tSeq (tAsg (tCall (sp_cards_of_suit K) [] E0 (tCons (tVar 2) (tCons (tOp oDiv (tOp (rIxL K) (tFld K (tVar 1) "trick") (tC (.int 0))) (tC (.int 16))) (tNil)))) (gName 3)) (tSeq (tIfS (tTest (tOp (rNeD K) (tVar 3) (tLst (tNil)))) (tRet (tVar 3)) (tNext)) (tSeq (tAsg (tCall (sp_cards_of_suit K) [] E0 (tCons (tVar 2) (tCons (tFld K (tVar 0) "trump") (tNil)))) (gName 4)) (tRet (tIf (tAnd (tB (tFld K (tVar 0) "is_ruff")) (tTest (tOp (rNeD K) (tVar 4) (tLst (tNil))))) (tVar 4) (tCB (cList K) (tCons (tVar 2) (tNil)))))))))
theorem dv_legal_cards {X : Cx} (o0 : On fa X ["deal", "position", "hand", "following", "trumps"] (defScope s_legal_cards)) (hf : ∀ x, X.fn x = true) (c_seat_to_move : Cal X "seat_to_move" (sp_seat_to_move X.K)) (c_cards_of_suit : Cal X "cards_of_suit" (sp_cards_of_suit X.K)) : PSs X (defBody s_legal_cards) (t_legal_cards X.K) := by
  have n0 := nm_legal_cards
  exact pss_cons (aset o0 n0 hf 2 (pe_ix ix_list (pe_fld (av o0 n0 1 (gm 0 rfl) rfl) rfl) (acall o0 n0 c_seat_to_move (pa_cons (av o0 n0 1 (gm 0 rfl) rfl) (pa_nil)) (gm 0 rfl)) (fun _ _ => rfl)) (gm 0 rfl) rfl) (pss_cons (ps_if (pt_cmpR (op_eqD o0.hu) (pe_fld (av o0 n0 1 (gm 0 rfl) rfl) rfl) (pe_lst (pa_nil)) (nomark _)) (pss_one (ps_ret (act o0 n0 call_list_of (by decide +kernel) (pa_cons (av o0 n0 2 (gm 1 rfl) rfl) (pa_nil)) (gm 1 rfl) f_list))) (pss_nil)) (pss_cons (aset o0 n0 hf 3 (acall o0 n0 c_cards_of_suit (pa_cons (av o0 n0 2 (gm 1 rfl) rfl) (pa_cons (pe_op op_fdiv (pe_ix ix_list (pe_fld (av o0 n0 1 (gm 0 rfl) rfl) rfl) (pe_int) (fun _ _ => rfl)) (pe_int)) (pa_nil))) (gm 2 rfl)) (gm 1 rfl) rfl) (pss_cons (ps_if (pt_cmpR (op_neD o0.hu) (av o0 n0 3 (gm 2 rfl) rfl) (pe_lst (pa_nil)) (nomark _)) (pss_one (ps_ret (av o0 n0 3 (gm 2 rfl) rfl))) (pss_nil)) (pss_cons (aset o0 n0 hf 4 (acall o0 n0 c_cards_of_suit (pa_cons (av o0 n0 2 (gm 1 rfl) rfl) (pa_cons (pe_fld (av o0 n0 0 (gm 3 rfl) rfl) rfl) (pa_nil))) (gm 2 rfl)) (gm 2 rfl) rfl) (pss_one (ps_ret (pe_ifExp (PW.pt (pw_and (pt_val (pe_fld (av o0 n0 0 (gm 3 rfl) rfl) rfl)) (pw_and1 (pt_cmpR (op_neD o0.hu) (av o0 n0 4 (gm 4 rfl) rfl) (pe_lst (pa_nil)) (nomark _))))) (av o0 n0 4 (gm 4 rfl) rfl) (act o0 n0 call_list_of (by decide +kernel) (pa_cons (av o0 n0 2 (gm 1 rfl) rfl) (pa_nil)) (gm 1 rfl) f_list))))))))
theorem hand_le {x : Deal} {p : Position} (g : Good x p) : (Vbndao.handOf p (Vbndao.playerToMove x p)).length ≤ 4 := by
  obtain ⟨m, h1, _, _, h4⟩ := g.sizes
  rw [hand_len g h4]
  exact h1
theorem opt_suit (o : Option Nat) (k : Nat) : decide ((k : Int) = optI o) = (o == some k) := by
  cases o with
  | none =>
    show decide ((k : Int) = -1) = false
    exact decide_eq_false (by omega)
  | some n =>
    show decide ((k : Int) = (n : Int)) = (n == k)
    rw [Bool.eq_iff_iff, decide_eq_true_eq, beq_iff_eq]
    omega
theorem ev_legal_cards (C : Ctx K mg) : ∀ a : Deal × Position, Good a.1 a.2 → ∀ W, Rt (t_legal_cards K) (envOf ["deal", "position", "hand", "following", "trumps"] [dDeal K a.1, dPos K a.2]) W (rD (dNs (Vbndao.legalCards a.1 a.2))) := fun ⟨x, p⟩ g W => by
  have hl := hand_le g
  have hs := (seat_good g).2
  dsimp only
  generalize eL : Vbndao.legalCards x p = L
  unfold Vbndao.legalCards at eL
  have hg : (p.hands.map dNs)[seatOf p]? = some (dNs (Vbndao.handOf p (Vbndao.playerToMove x p))) := by rw [hs, List.getElem?_map, hand_get g]; rfl
  generalize Vbndao.handOf p (Vbndao.playerToMove x p) = h at eL hg hl
  refine rt_seq (nx_set (d := dNs h) (ev_ixL (j := seatOf p) (evp C ev_var fn_Position_hands rfl) (ev_call p (seat_good g).1 (ea_cons ev_var ea_nil)) hg)) ?_
  refine rt_ifR (et_test (ev_isNil (evp C ev_var fn_Position_trick rfl))) (fun e => ?_) fun e => ?_
  · rw [List.isEmpty_iff] at e
    rw [e] at eL
    subst eL
    exact rt_frz (rt_retO (evO_list rfl ev_var))
  · obtain ⟨c, r, ec⟩ : ∃ c r, p.trick = c :: r := by
      cases q : p.trick with
      | nil => rw [q] at e; cases e
      | cons c r => exact ⟨c, r, rfl⟩
    rw [ec] at eL
    dsimp only at eL
    have ef : (h.filter fun (d : Nat) => decide (((d / 16 : Nat) : Int) = ((c / 16 : Nat) : Int))) = h.filter fun d => Vbndao.suitOf d == Vbndao.suitOf c := by
      refine List.filter_congr fun d _ => ?_
      show _ = ((d / 16) == (c / 16))
      rw [Bool.eq_iff_iff, decide_eq_true_eq, beq_iff_eq]
      omega
    have et : (h.filter fun (d : Nat) => decide (((d / 16 : Nat) : Int) = optI x.trump)) = h.filter fun d => x.trump == some (Vbndao.suitOf d) := List.filter_congr fun d _ => opt_suit _ _
    generalize (h.filter fun d => Vbndao.suitOf d == Vbndao.suitOf c) = f at eL ef
    generalize (h.filter fun d => x.trump == some (Vbndao.suitOf d)) = t at eL et
    refine rt_seq (nx_set (d := dNs f) ((ev_call (h, ((c / 16 : Nat) : Int)) (by show h.length ≤ 100; omega) (ea_cons ev_var (ea_cons (ev_divN (m := c) (k := 16) (ev_ixL (j := 0) (evp C ev_var fn_Position_trick rfl) ev_c (by rw [ec]; rfl)) ev_c (by decide)) ea_nil))).to (congrArg dNs ef))) ?_
    refine rt_ifR (et_test (ev_noNil ev_var)) (fun e2 => ?_) fun e2 => ?_
    · rw [if_pos (by simpa using e2)] at eL
      subst eL
      exact rt_ret ev_var
    · rw [if_neg (by simpa using e2)] at eL
      refine rt_seq (nx_set (d := dNs t) ((ev_call (h, optI x.trump) (by show h.length ≤ 100; omega) (ea_cons ev_var (ea_cons (evd C ev_var fn_Deal_trump rfl) ea_nil))).to (congrArg dNs et))) ?_
      refine rt_ret (ev_if (et_and (et_B (evd C ev_var fn_Deal_is_ruff rfl)) fun _ => et_test (ev_noNil ev_var)) (fun e3 => ?_) fun e3 => ?_)
      · rw [if_pos (by simpa using e3)] at eL
        subst eL
        exact ev_var
      · rw [if_neg (by simpa using e3)] at eL
        subst eL
        exact EvO.ev (evO_list rfl ev_var)
theorem ok_legal_cards {P : Program} {w : World} {K : PySem.W.Frag} {mg : Str → Option Value} {base : Heap} (C : Ctx K mg) : Ok P w K mg base 2 "legal_cards" ["deal", "position"] (sp_legal_cards K) :=
  ok_gen C 29 rfl rfl sc_legal_cards fg_legal_cards (fun _ _ _ _ _ _ hr o => dv_legal_cards o (fun _ => rfl) ((ok_seat_to_move C).cal hr (by decide)) ((ok_cards_of_suit C).cal hr (by decide))) (fun _ _ _ _ _ _ us hl => match us, hl with | [_, _], _ => rfl) (len_of fun _ => rfl) fun _ _ _ _ h => reads_of (ev_legal_cards C) h
def sp_strength (K : PySem.W.Frag) : Sp := spOf (fun _ : Deal × Nat × Nat => True) (fun a => [dDeal K a.1, dN a.2.1, dN a.2.2]) (fun a => dN (strength a.1 a.2.1 a.2.2))
/-! strength -/
def N_strength : List Str := ["deal", "card", "suit"]
theorem sc_strength : FnScope ["deal", "card", "suit"] ["deal", "card", "suit"] (defScope s_strength) := ⟨rfl, rfl, rfl, by decide +kernel, rfl, by decide +kernel, by decide +kernel⟩
theorem nm_strength : nmB ["deal", "card", "suit"] (defScope s_strength) [1, 0, 2] [] [] = true := by decide +kernel
def t_strength (K : PySem.W.Frag) : TS := tSeq (tIfS (tTest (tOp rEq (tOp oDiv (tVar 1) (tC (.int 16))) (tFld K (tVar 0) "trump"))) (tRet (tOp oAdd (tC (.int 16)) (tOp oMod (tVar 1) (tC (.int 16))))) (tNext)) (tRet (tIf (tTest (tOp rEq (tOp oDiv (tVar 1) (tC (.int 16))) (tVar 2))) (tOp oMod (tVar 1) (tC (.int 16))) (tC (.int 0))))
theorem dv_strength {X : Cx} (o0 : On fa X ["deal", "card", "suit"] (defScope s_strength)) (hf : ∀ x, X.fn x = true) : PSs X (defBody s_strength) (t_strength X.K) := by
  have n0 := nm_strength
  exact pss_cons (ps_if (pt_cmpR op_eq (pe_op op_fdiv (av o0 n0 1 (gm 0 rfl) rfl) (pe_int)) (pe_fld (av o0 n0 0 (gm 1 rfl) rfl) rfl) (nomark _)) (pss_one (ps_ret (pe_op op_add (pe_int) (pe_op op_mod (av o0 n0 1 (gm 0 rfl) rfl) (pe_int))))) (pss_nil)) (pss_one (ps_ret (pe_ifExp (pt_cmpR op_eq (pe_op op_fdiv (av o0 n0 1 (gm 0 rfl) rfl) (pe_int)) (av o0 n0 2 (gm 2 rfl) rfl) (nomark _)) (pe_op op_mod (av o0 n0 1 (gm 0 rfl) rfl) (pe_int)) (pe_int))))
theorem ev_strength (C : Ctx K mg) : ∀ a : Deal × Nat × Nat, True → ∀ W, Rt (t_strength K) (envOf ["deal", "card", "suit"] [dDeal K a.1, dN a.2.1, dN a.2.2]) W (rD (dN (strength a.1 a.2.1 a.2.2))) := fun ⟨x, c, s⟩ _ W => by
  unfold strength
  refine rt_ifR (b := decide (x.trump = some (c / 16))) ((et_test (ev_eqI (ev_divN (k := 16) ev_var ev_c (by decide)) (evd C ev_var fn_Deal_trump rfl))).to ?_) (fun e => ?_) fun e => ?_
  · show decide (((c / 16 : Nat) : Int) = optI x.trump) = _
    rw [opt_suit, Bool.eq_iff_iff, beq_iff_eq, decide_eq_true_eq]
  · rw [decide_eq_true_eq] at e
    dsimp only
    rw [if_pos e]
    exact rt_ret (ev_addN (m := 16) ev_c (ev_modN (k := 16) ev_var ev_c (by decide)))
  · rw [decide_eq_false_iff_not] at e
    dsimp only
    rw [if_neg e]
    refine rt_ret (ev_if (b := decide (c / 16 = s)) ((et_test (ev_eqI (ev_divN (k := 16) ev_var ev_c (by decide)) ev_var)).to (decide_eq_decide.mpr (by omega))) (fun e2 => ?_) fun e2 => ?_)
    · rw [decide_eq_true_eq] at e2
      rw [if_pos e2]
      exact ev_modN (k := 16) ev_var ev_c (by decide)
    · rw [decide_eq_false_iff_not] at e2
      rw [if_neg e2]
      exact ev_c
theorem ok_strength {P : Program} {w : World} {K : PySem.W.Frag} {mg : Str → Option Value} {base : Heap} (C : Ctx K mg) : Ok P w K mg base 1 "strength" ["deal", "card", "suit"] (sp_strength K) :=
  ok_gen C 30 rfl rfl sc_strength fg_strength (fun _ _ _ _ _ _ hr o => dv_strength o (fun _ => rfl)) (fun _ _ _ _ _ _ us hl => match us, hl with | [_, _, _], _ => rfl) (len_of fun _ => rfl) fun _ _ _ _ h => reads_of (ev_strength C) h
def sp_winning_place (K : PySem.W.Frag) : Sp := spOf (fun a : Deal × List Nat => a.2 ≠ [] ∧ a.2.length ≤ 100 ∧ (∀ e ∈ a.2, CardOk e) ∧ a.2.Nodup) (fun a => [dDeal K a.1, dNs a.2]) (fun a => dN (Vbndao.winnerIndex a.1 a.2))
/-! winning_place -/
def N_winning_place : List Str := ["deal", "trick", "strengths", "card"]
theorem sc_winning_place : FnScope ["deal", "trick", "strengths", "card"] ["deal", "trick"] (defScope s_winning_place) := ⟨rfl, rfl, rfl, by decide +kernel, rfl, by decide +kernel, by decide +kernel⟩
theorem nm_winning_place : nmB ["deal", "trick", "strengths", "card"] (defScope s_winning_place) [1, 2] [2] ["max"] = true := by decide +kernel
def t_winning_place (K : PySem.W.Frag) : TS := tSeq (tAsg (tLc (iList K (tVar 1)) (gName 3) (tYes) (tCall (sp_strength K) [] E0 (tCons (tVar 0) (tCons (tVar 3) (tCons (tOp oDiv (tOp (rIxL K) (tVar 1) (tC (.int 0))) (tC (.int 16))) (tNil))))) [3]) (gName 2)) (tRet (tBM K "list" (rIndex K) (tVar 2) (tCons (tCB (rMax K) (tCons (tVar 2) (tNil))) (tNil))))
theorem dv_winning_place {X : Cx} (o0 : On fa X ["deal", "trick", "strengths", "card"] (defScope s_winning_place)) (hf : ∀ x, X.fn x = true) (c_strength : Cal X "strength" (sp_strength X.K)) : PSs X (defBody s_winning_place) (t_winning_place X.K) := by
  have n0 := nm_winning_place
  exact pss_cons (asetLc o0 sc_winning_place.kind (i := 2) (own := [("card", 3)]) rfl (by decide +kernel) (by decide +kernel) (pi_list (av o0 n0 1 (gm 0 rfl) rfl)) (o0.ok (own := [("card", 3)]) (by decide +kernel)) (fun s1 H1 C1 l1 p1 => let o1 := o0.blk s1 H1 _ C1 l1 p1; agb o1 3 rfl (by decide +kernel)) (fun _ _ _ _ _ => pts_nil) (fun s1 H1 C1 l1 p1 => (fun (n1 : nmB _ (relS _ _) [0, 3, 1] [] ["strength"] = true) => let o1 := o0.blk s1 H1 _ C1 l1 p1; acall o1 n1 c_strength.blk (pa_cons (av o1 n1 0 (gm 0 rfl) rfl) (pa_cons (av o1 n1 3 (gm 1 rfl) rfl) (pa_cons (pe_op op_fdiv (pe_ix ix_list (av o1 n1 1 (gm 2 rfl) rfl) (pe_int) (fun _ _ => rfl)) (pe_int)) (pa_nil)))) (gm 0 rfl)) (by decide +kernel))) (pss_one (ps_ret (pe_bm PySem.F.plainAttrs_list PySem.F.slot_list_index PySem.F.type_list_index mt_index (av o0 n0 2 (gm 1 rfl) rfl) (pa_cons (acb o0 n0 (cr_max o0.calm) (by decide +kernel) (pa_cons (av o0 n0 2 (gm 1 rfl) rfl) (pa_nil)) (gm 0 rfl) f_max) (pa_nil)))))
theorem ints_nat (l : List Nat) : dIs (l.map fun (n : Nat) => (n : Int)) = dNs l := by
  show dL ((l.map _).map dI) = dL (l.map dN)
  rw [List.map_map]
  rfl
theorem first_int {l : List Nat} {m j : Nat} (h : FirstAt l m j) : (l.map fun (n : Nat) => (n : Int))[j]? = some (m : Int) ∧ ∀ (k : Nat), k < j → (l.map fun (n : Nat) => (n : Int))[k]? ≠ some (m : Int) := by
  refine ⟨by rw [List.getElem?_map, h.1]; rfl, fun k hk e => ?_⟩
  obtain ⟨c, h1, h2⟩ := map_at e
  exact h.2 k hk (by rw [h1]; exact congrArg some (Int.ofNat.inj h2))
theorem ev_winning_place (C : Ctx K mg) : ∀ a : Deal × List Nat, (a.2 ≠ [] ∧ a.2.length ≤ 100 ∧ (∀ e ∈ a.2, CardOk e) ∧ a.2.Nodup) → ∀ W, Rt (t_winning_place K) (envOf ["deal", "trick", "strengths", "card"] [dDeal K a.1, dNs a.2]) W (rD (dN (Vbndao.winnerIndex a.1 a.2))) := fun ⟨x, t⟩ ⟨h1, h2, h3, h4⟩ W => by
  dsimp only at h1 h2 h3 h4 ⊢
  obtain ⟨c0, r, e⟩ : ∃ c r, t = c :: r := by
    cases t with
    | nil => exact absurd rfl h1
    | cons c r => exact ⟨c, r, rfl⟩
  obtain ⟨m, hf, hm⟩ := win_place e h3 h4 (x := x)
  obtain ⟨i1, i2⟩ := first_int hf
  refine rt_seq (nx_set (d := dNs (t.map fun z => strength x z (c0 / 16))) ((EvO.ev (evO_lcm t dN (fun z => dN (strength x z (c0 / 16))) (fun c G => G.set 3 (some (.pl (dN c)))) [3] (ei_list ev_var) (fun _ _ => tg_name)
    (fun z _ => ev_call (x, z, c0 / 16) trivial (ea_cons ev_var (ea_cons ev_var (ea_cons (ev_divN (m := c0) (k := 16) (ev_ixL (j := 0) ev_var ev_c (by rw [e]; rfl)) ev_c (by decide)) ea_nil)))) (fun j h => h) (szl (Nat.le_trans h2 (by decide))))).to (by show _ = dL ((t.map _).map dN); rw [List.map_map]; rfl))) ?_
  refine rt_ret (ev_index (m := (m : Int)) (ns := (t.map fun z => strength x z (c0 / 16)).map fun (n : Nat) => (n : Int)) ?_ ?_ i1 i2)
  · rw [ints_nat]; exact ev_var
  · refine ev_max (ns := (t.map fun z => strength x z (c0 / 16)).map fun (n : Nat) => (n : Int)) ?_ (List.mem_of_getElem? i1) fun y hy => ?_
    · rw [ints_nat]; exact ev_var
    · obtain ⟨z, hz, rfl⟩ := List.mem_map.mp hy
      have := hm z hz
      omega
theorem ok_winning_place {P : Program} {w : World} {K : PySem.W.Frag} {mg : Str → Option Value} {base : Heap} (C : Ctx K mg) : Ok P w K mg base 2 "winning_place" ["deal", "trick"] (sp_winning_place K) :=
  ok_gen C 31 rfl rfl sc_winning_place fg_winning_place (fun _ _ _ _ _ _ hr o => dv_winning_place o (fun _ => rfl) ((ok_strength C).cal hr (by decide))) (fun _ _ _ _ _ _ us hl => match us, hl with | [_, _], _ => rfl) (len_of fun _ => rfl) fun _ _ _ _ h => reads_of (ev_winning_place C) h
def sp_with_points (K : PySem.W.Frag) : Sp := spOf (fun _ : (Nat × Nat) × Nat × Nat => True) (fun a => [dT K [dN a.1.1, dN a.1.2], dN a.2.1, dN a.2.2]) (fun a => dT K [dN (if a.2.1 = 0 then a.1.1 + a.2.2 else a.1.1), dN (if a.2.1 = 0 then a.1.2 else a.1.2 + a.2.2)])
/-! with_points -/
def N_with_points : List Str := ["points", "side", "more"]
theorem sc_with_points : FnScope ["points", "side", "more"] ["points", "side", "more"] (defScope s_with_points) := ⟨rfl, rfl, rfl, by decide +kernel, rfl, by decide +kernel, by decide +kernel⟩
theorem nm_with_points : nmB ["points", "side", "more"] (defScope s_with_points) [1, 0, 2] [] [] = true := by decide +kernel
def t_with_points (K : PySem.W.Frag) : TS := tRet (tIf (tTest (tOp rEq (tVar 1) (tC (.int 0)))) (tTup (tCons (tOp oAdd (tOp (rIxT K) (tVar 0) (tC (.int 0))) (tVar 2)) (tCons (tOp (rIxT K) (tVar 0) (tC (.int 1))) (tNil)))) (tTup (tCons (tOp (rIxT K) (tVar 0) (tC (.int 0))) (tCons (tOp oAdd (tOp (rIxT K) (tVar 0) (tC (.int 1))) (tVar 2)) (tNil)))))
theorem dv_with_points {X : Cx} (o0 : On fa X ["points", "side", "more"] (defScope s_with_points)) (hf : ∀ x, X.fn x = true) : PSs X (defBody s_with_points) (t_with_points X.K) := by
  have n0 := nm_with_points
  exact pss_one (ps_ret (pe_ifExp (pt_cmpR op_eq (av o0 n0 1 (gm 0 rfl) rfl) (pe_int) (nomark _)) (pe_tup (pa_cons (pe_op op_add (pe_ix ix_tup (av o0 n0 0 (gm 1 rfl) rfl) (pe_int) (fun _ _ => rfl)) (av o0 n0 2 (gm 2 rfl) rfl)) (pa_cons (pe_ix ix_tup (av o0 n0 0 (gm 1 rfl) rfl) (pe_int) (fun _ _ => rfl)) (pa_nil)))) (pe_tup (pa_cons (pe_ix ix_tup (av o0 n0 0 (gm 1 rfl) rfl) (pe_int) (fun _ _ => rfl)) (pa_cons (pe_op op_add (pe_ix ix_tup (av o0 n0 0 (gm 1 rfl) rfl) (pe_int) (fun _ _ => rfl)) (av o0 n0 2 (gm 2 rfl) rfl)) (pa_nil))))))
theorem ev_with_points (C : Ctx K mg) : ∀ a : (Nat × Nat) × Nat × Nat, True → ∀ W, Rt (t_with_points K) (envOf ["points", "side", "more"] [dT K [dN a.1.1, dN a.1.2], dN a.2.1, dN a.2.2]) W
    (rD (dT K [dN (if a.2.1 = 0 then a.1.1 + a.2.2 else a.1.1), dN (if a.2.1 = 0 then a.1.2 else a.1.2 + a.2.2)])) := fun ⟨⟨a, b⟩, s, m⟩ _ W => by
  dsimp only
  refine rt_ret (ev_if (b := decide (s = 0)) ((et_test (ev_eqI ev_var ev_c)).to (decide_eq_decide.mpr (by omega))) (fun e => ?_) fun e => ?_)
  · rw [decide_eq_true_eq] at e
    rw [if_pos e, if_pos e]
    exact ev_tup (ea_cons (ev_addN (ev_ixT (j := 0) ev_var ev_c rfl) ev_var) (ea_cons (ev_ixT (j := 1) ev_var ev_c rfl) ea_nil))
  · rw [decide_eq_false_iff_not] at e
    rw [if_neg e, if_neg e]
    exact ev_tup (ea_cons (ev_ixT (j := 0) ev_var ev_c rfl) (ea_cons (ev_addN (ev_ixT (j := 1) ev_var ev_c rfl) ev_var) ea_nil))
theorem ok_with_points {P : Program} {w : World} {K : PySem.W.Frag} {mg : Str → Option Value} {base : Heap} (C : Ctx K mg) : Ok P w K mg base 1 "with_points" ["points", "side", "more"] (sp_with_points K) :=
  ok_gen C 32 rfl rfl sc_with_points fg_with_points (fun _ _ _ _ _ _ hr o => dv_with_points o (fun _ => rfl)) (fun _ _ _ _ _ _ us hl => match us, hl with | [_, _, _], _ => rfl) (len_of fun _ => rfl) fun _ _ _ _ h => reads_of (ev_with_points C) h
end
end Fd

namespace Fd
open PySem PySem.Spec PyProof.Rows L2
open Vbndao (Deal Position)
section
variable {K : PySem.W.Frag} {mg : Str → Option Value}
theorem put_new {f : Str} {d : Dsc} : ∀ {fs : List (Str × Dsc)}, ((fs.map (·.1)).all fun g => decide (g ≠ f)) = true → putD f d fs = fs ++ [(f, d)]
  | [], _ => rfl
  | (g, c) :: r, h => by
    rw [List.map_cons, List.all_cons, Bool.and_eq_true, decide_eq_true_eq] at h
    unfold putD
    rw [if_neg h.1, put_new h.2]
    rfl
/-- a new attribute of the instance in slot i -/
theorem nx_new {G : En} {W : Wd} {d : Dsc} {te : TE} {C x : Addr} {fs : List (Str × Dsc)} {f : Str} {i : Nat} (names : List Str) (hG : G[i]? = some (some (.ow (ownI W C x fs)))) (hp : plainE (G.set i none) = true) (h : Ev te G W d) (hc : Cls K C) (hn : NoAttr K C f) (hN : fs.map (·.1) = names) (hnew : (names.all fun g => decide (g ≠ f)) = true) (hl : Nat.ble fs.length 900 = true := by rfl) :
    Nx (sFld K (tVar i) te f) G W (G.set i (some (.ow (ownI W C x (fs ++ [(f, d)]))))) := by
  have := nx_fld (i := i) hG hp h hc hn (Nat.lt_of_le_of_lt (Nat.le_of_ble_eq_true hl) (by decide))
  rw [put_new (by rw [hN]; exact hnew)] at this
  exact this
def sp_Position (K : PySem.W.Frag) : Sp := spMk (He.ga K "Position") (fun _ : Position => True) (fun p => [dL (p.hands.map dNs), dNs p.trick, dN p.leader, dT K [dN p.scores.1, dN p.scores.2]]) (fPos K)
/-! Position.__init__ -/
def N_Position : List Str := ["self", "hands", "trick", "leader", "points"]
theorem sc_Position : FnScope ["self", "hands", "trick", "leader", "points"] ["self", "hands", "trick", "leader", "points"] (defScope s_Position) := ⟨rfl, rfl, rfl, by decide +kernel, rfl, by decide +kernel, by decide +kernel⟩
theorem nm_Position : nmB ["self", "hands", "trick", "leader", "points"] (defScope s_Position) [0, 1, 2, 3, 4] [] [] = true := by decide +kernel
def t_Position (K : PySem.W.Frag) : TS := tSeq (sFld K (tVar 0) (tVar 1) "hands") (tSeq (sFld K (tVar 0) (tVar 2) "trick") (tSeq (sFld K (tVar 0) (tVar 3) "leader") (sFld K (tVar 0) (tVar 4) "points")))
theorem dv_Position {X : Cx} (o0 : On fa X ["self", "hands", "trick", "leader", "points"] (defScope s_Position)) (hf : ∀ x, X.fn x = true) : PSs X (defBody s_Position) (t_Position X.K) := by
  have n0 := nm_Position
  exact pss_cons (ps_fld (av o0 n0 0 (gm 0 rfl) rfl) (av o0 n0 1 (gm 1 rfl) rfl) rfl) (pss_cons (ps_fld (av o0 n0 0 (gm 0 rfl) rfl) (av o0 n0 2 (gm 2 rfl) rfl) rfl) (pss_cons (ps_fld (av o0 n0 0 (gm 0 rfl) rfl) (av o0 n0 3 (gm 3 rfl) rfl) rfl) (pss_one (ps_fld (av o0 n0 0 (gm 0 rfl) rfl) (av o0 n0 4 (gm 4 rfl) rfl) rfl))))
theorem ev_Position (C : Ctx K mg) : ∀ a : Position, True → ∀ W0 x, ∃ G', Nx (t_Position K) (envM ["self", "hands", "trick", "leader", "points"] W0 (He.ga K "Position") x [dL (a.hands.map dNs), dNs a.trick, dN a.leader, dT K [dN a.scores.1, dN a.scores.2]]) W0 (some (.ow (ownI W0 (He.ga K "Position") x (fPos K a))) :: G') := fun p _ W0 x => by
  refine ⟨(envM ["self", "hands", "trick", "leader", "points"] W0 (He.ga K "Position") x [dL (p.hands.map dNs), dNs p.trick, dN p.leader, dT K [dN p.scores.1, dN p.scores.2]]).tail, ?_⟩
  refine nx_seq (nx_new (i := 0) [] rfl rfl ev_var (C.cls fc_Position) (C.noat fn_Position_hands) rfl rfl) ?_
  refine nx_seq (nx_new (i := 0) ["hands"] rfl rfl ev_var (C.cls fc_Position) (C.noat fn_Position_trick) rfl (by decide +kernel)) ?_
  refine nx_seq (nx_new (i := 0) ["hands", "trick"] rfl rfl ev_var (C.cls fc_Position) (C.noat fn_Position_leader) rfl (by decide +kernel)) ?_
  exact nx_to (nx_new (i := 0) ["hands", "trick", "leader"] rfl rfl ev_var (C.cls fc_Position) (C.noat fn_Position_points) rfl (by decide +kernel)) rfl
theorem okM_Position {P : Program} {w : World} {K : PySem.W.Frag} {mg : Str → Option Value} {base : Heap} (C : Ctx K mg) : OkM P w K mg base 1 "Position" ["self", "hands", "trick", "leader", "points"] (sp_Position K) :=
  okM_gen C 96 rfl rfl sc_Position fg_Position fm_Position (fun _ _ _ _ _ _ hr o => dv_Position o (fun _ => rfl)) (fun _ _ _ _ _ _ us hl => match us, hl with | [_, _, _, _, _], _ => rfl) (len_mk fun _ => rfl) fun _ _ _ _ h => reads_mk (ev_Position C) h
def begP (x : Deal) (hands : List (List Nat)) : Position := { hands := hands, leader := Vbndao.firstLeaderOf x, trick := [], scores := (0, 0) }
def sp_beginning (K : PySem.W.Frag) : Sp := spOf (fun _ : Deal × List (List Nat) => True) (fun a => [dDeal K a.1, dL (a.2.map dNs)]) (fun a => dPos K (begP a.1 a.2))
/-! beginning -/
def N_beginning : List Str := ["deal", "hands"]
theorem sc_beginning : FnScope ["deal", "hands"] ["deal", "hands"] (defScope s_beginning) := ⟨rfl, rfl, rfl, by decide +kernel, rfl, by decide +kernel, by decide +kernel⟩
theorem nm_beginning : nmB ["deal", "hands"] (defScope s_beginning) [1, 0] [] ["Position"] = true := by decide +kernel
def t_beginning (K : PySem.W.Frag) : TS := tRet (tMake (He.ga K "Position") (sp_Position K) [] E0 (tCons (tVar 1) (tCons (tLst (tNil)) (tCons (tFld K (tVar 0) "lead") (tCons (tTup (tCons (tC (.int 0)) (tCons (tC (.int 0)) (tNil)))) (tNil))))))
theorem dv_beginning {X : Cx} (o0 : On fa X ["deal", "hands"] (defScope s_beginning)) (hf : ∀ x, X.fn x = true) (c_Position : Mak X "Position" (He.ga X.K "Position") (sp_Position X.K)) : PSs X (defBody s_beginning) (t_beginning X.K) := by
  have n0 := nm_beginning
  exact pss_one (ps_ret (amake o0 n0 c_Position (pa_cons (av o0 n0 1 (gm 0 rfl) rfl) (pa_cons (pe_lst (pa_nil)) (pa_cons (pe_fld (av o0 n0 0 (gm 1 rfl) rfl) rfl) (pa_cons (pe_tup (pa_cons (pe_int) (pa_cons (pe_int) (pa_nil)))) (pa_nil))))) (gm 0 rfl)))
theorem ev_newPos {G : En} {W : Wd} {t : TA} (p : Position) (h : EvA t G W [dL (p.hands.map dNs), dNs p.trick, dN p.leader, dT K [dN p.scores.1, dN p.scores.2]]) : Ev (tMake (He.ga K "Position") (sp_Position K) [] E0 t) G W (dPos K p) := (evM_make p trivial h).ev
theorem ev_beginning (C : Ctx K mg) : ∀ a : Deal × List (List Nat), True → ∀ W, Rt (t_beginning K) (envOf ["deal", "hands"] [dDeal K a.1, dL (a.2.map dNs)]) W (rD (dPos K (begP a.1 a.2))) := fun ⟨x, h⟩ _ W =>
  rt_ret (ev_newPos (begP x h) (ea_cons ev_var (ea_cons (EvO.ev (evO_lst ea_nil)) (ea_cons (evd C ev_var fn_Deal_lead rfl) (ea_cons (ev_tup (ea_cons ev_c (ea_cons ev_c ea_nil))) ea_nil)))))
theorem ok_beginning {P : Program} {w : World} {K : PySem.W.Frag} {mg : Str → Option Value} {base : Heap} (C : Ctx K mg) : Ok P w K mg base 3 "beginning" ["deal", "hands"] (sp_beginning K) :=
  ok_gen C 23 rfl rfl sc_beginning fg_beginning (fun _ _ _ _ _ _ hr o => dv_beginning o (fun _ => rfl) ((okM_Position C).mak hr (by decide))) (fun _ _ _ _ _ _ us hl => match us, hl with | [_, _], _ => rfl) (len_of fun _ => rfl) fun _ _ _ _ h => reads_of (ev_beginning C) h
def behindP (x : Deal) (hands : List (List Nat)) (trick : List Nat) (leader : Nat) (sc : Nat × Nat) : Position :=
  let w := (leader + Vbndao.winnerIndex x trick) % hands.length
  { hands := hands, leader := w, trick := [], scores := Vbndao.addScore x w (Vbndao.trickValueOf x + (trick.map (Vbndao.cardValue x)).sum + (if hands.getD w [] = [] then Vbndao.lastTrickBonusOf x else 0)) sc }
def sp_behind_trick (K : PySem.W.Frag) : Sp := spOf (fun a : Deal × List (List Nat) × List Nat × Nat × (Nat × Nat) => (a.2.2.1 ≠ [] ∧ a.2.2.1.length ≤ 100 ∧ (∀ e ∈ a.2.2.1, CardOk e) ∧ a.2.2.1.Nodup) ∧ 0 < a.2.1.length ∧ a.2.1.length = a.1.seats.length)
  (fun a => [dDeal K a.1, dL (a.2.1.map dNs), dNs a.2.2.1, dN a.2.2.2.1, dT K [dN a.2.2.2.2.1, dN a.2.2.2.2.2]]) (fun a => dPos K (behindP a.1 a.2.1 a.2.2.1 a.2.2.2.1 a.2.2.2.2))
/-! behind_trick -/
def N_behind_trick : List Str := ["deal", "hands", "trick", "leader", "points", "seat", "more", "card"]
theorem sc_behind_trick : FnScope ["deal", "hands", "trick", "leader", "points", "seat", "more", "card"] ["deal", "hands", "trick", "leader", "points"] (defScope s_behind_trick) := ⟨rfl, rfl, rfl, by decide +kernel, rfl, by decide +kernel, by decide +kernel⟩
theorem nm_behind_trick : nmB ["deal", "hands", "trick", "leader", "points", "seat", "more", "card"] (defScope s_behind_trick) [3, 0, 2, 1, 5, 6, 4] [5, 6] ["winning_place", "len", "sum", "with_points", "Position"] = true := by decide +kernel
def t_behind_trick (K : PySem.W.Frag) : TS := tSeq (tAsg (tOp oMod (tOp oAdd (tVar 3) (tCall (sp_winning_place K) [] E0 (tCons (tVar 0) (tCons (tVar 2) (tNil))))) (tCB (cLen K) (tCons (tVar 1) (tNil)))) (gName 5)) (tSeq (tAsg (tOp oAdd (tFld K (tVar 0) "trick_points") (tCB (rSum K) (tCons (tLc (iList K (tVar 2)) (gName 7) (tYes) (tCall (sp_worth K) [] E0 (tCons (tVar 0) (tCons (tVar 7) (tNil)))) [7]) (tNil)))) (gName 6)) (tSeq (tIfS (tTest (tOp (rEqD K) (tOp (rIxL K) (tVar 1) (tVar 5)) (tLst (tNil)))) (tAsg (tOp oAdd (tVar 6) (tFld K (tVar 0) "last_points")) (gName 6)) (tNext)) (tRet (tMake (He.ga K "Position") (sp_Position K) [] E0 (tCons (tVar 1) (tCons (tLst (tNil)) (tCons (tVar 5) (tCons (tCall (sp_with_points K) [] E0 (tCons (tVar 4) (tCons (tOp (rIxL K) (tFld K (tVar 0) "sides") (tVar 5)) (tCons (tVar 6) (tNil))))) (tNil)))))))))
theorem dv_behind_trick {X : Cx} (o0 : On fa X ["deal", "hands", "trick", "leader", "points", "seat", "more", "card"] (defScope s_behind_trick)) (hf : ∀ x, X.fn x = true) (c_winning_place : Cal X "winning_place" (sp_winning_place X.K)) (c_worth : Cal X "worth" (sp_worth X.K)) (c_with_points : Cal X "with_points" (sp_with_points X.K)) (c_Position : Mak X "Position" (He.ga X.K "Position") (sp_Position X.K)) : PSs X (defBody s_behind_trick) (t_behind_trick X.K) := by
  have n0 := nm_behind_trick
  exact pss_cons (aset o0 n0 hf 5 (pe_op op_mod (pe_op op_add (av o0 n0 3 (gm 0 rfl) rfl) (acall o0 n0 c_winning_place (pa_cons (av o0 n0 0 (gm 1 rfl) rfl) (pa_cons (av o0 n0 2 (gm 2 rfl) rfl) (pa_nil))) (gm 0 rfl))) (acb o0 n0 call_len_seq (by decide +kernel) (pa_cons (av o0 n0 1 (gm 3 rfl) rfl) (pa_nil)) (gm 1 rfl) f_len)) (gm 0 rfl) rfl) (pss_cons (aset o0 n0 hf 6 (pe_op op_add (pe_fld (av o0 n0 0 (gm 1 rfl) rfl) rfl) (acb o0 n0 (cr_sum o0.calm) (by decide +kernel) (pa_cons (pe_lc (own := [("card", 7)]) o0.calm o0.nd (pi_list (av o0 n0 2 (gm 2 rfl) rfl)) (o0.ok (own := [("card", 7)]) (by decide +kernel)) (fun s1 H1 C1 l1 p1 => let o1 := o0.blk s1 H1 _ C1 l1 p1; agb o1 7 rfl (by decide +kernel)) (fun _ _ _ _ _ => pts_nil) (fun s1 H1 C1 l1 p1 => (fun (n1 : nmB _ (relS _ _) [0, 7] [] ["worth"] = true) => let o1 := o0.blk s1 H1 _ C1 l1 p1; acall o1 n1 c_worth.blk (pa_cons (av o1 n1 0 (gm 0 rfl) rfl) (pa_cons (av o1 n1 7 (gm 1 rfl) rfl) (pa_nil))) (gm 0 rfl)) (by decide +kernel))) (pa_nil)) (gm 2 rfl) f_sum)) (gm 1 rfl) rfl) (pss_cons (ps_if (pt_cmpR (op_eqD o0.hu) (pe_ix ix_list (av o0 n0 1 (gm 3 rfl) rfl) (av o0 n0 5 (gm 4 rfl) rfl) (fun _ _ => rfl)) (pe_lst (pa_nil)) (nomark _)) (pss_one (aset o0 n0 hf 6 (pe_op op_add (av o0 n0 6 (gm 5 rfl) rfl) (pe_fld (av o0 n0 0 (gm 1 rfl) rfl) rfl)) (gm 1 rfl) rfl)) (pss_nil)) (pss_one (ps_ret (amake o0 n0 c_Position (pa_cons (av o0 n0 1 (gm 3 rfl) rfl) (pa_cons (pe_lst (pa_nil)) (pa_cons (av o0 n0 5 (gm 4 rfl) rfl) (pa_cons (acall o0 n0 c_with_points (pa_cons (av o0 n0 4 (gm 6 rfl) rfl) (pa_cons (pe_ix ix_list (pe_fld (av o0 n0 0 (gm 1 rfl) rfl) rfl) (av o0 n0 5 (gm 4 rfl) rfl) (fun _ _ => rfl)) (pa_cons (av o0 n0 6 (gm 5 rfl) rfl) (pa_nil)))) (gm 3 rfl)) (pa_nil))))) (gm 4 rfl))))))
theorem ev_sumN {G : En} {W : Wd} {te : TE} {l : List Nat} (h : Ev te G W (dNs l)) : Ev (tCB (rSum K) (tCons te tNil)) G W (dN l.sum) := by
  rw [← ints_nat] at h
  exact (ev_sum h).to (by rw [sum_nat_int])
theorem ev_behind_trick (C : Ctx K mg) : ∀ a : Deal × List (List Nat) × List Nat × Nat × (Nat × Nat), ((a.2.2.1 ≠ [] ∧ a.2.2.1.length ≤ 100 ∧ (∀ e ∈ a.2.2.1, CardOk e) ∧ a.2.2.1.Nodup) ∧ 0 < a.2.1.length ∧ a.2.1.length = a.1.seats.length) → ∀ W,
    Rt (t_behind_trick K) (envOf ["deal", "hands", "trick", "leader", "points", "seat", "more", "card"] [dDeal K a.1, dL (a.2.1.map dNs), dNs a.2.2.1, dN a.2.2.2.1, dT K [dN a.2.2.2.2.1, dN a.2.2.2.2.2]]) W (rD (dPos K (behindP a.1 a.2.1 a.2.2.1 a.2.2.2.1 a.2.2.2.2))) := fun ⟨x, hs, t, ld, s1, s2⟩ ⟨h1, h2, h3⟩ W => by
  dsimp only at h1 h2 h3 ⊢
  have hw : (ld + Vbndao.winnerIndex x t) % hs.length < hs.length := Nat.mod_lt _ h2
  unfold behindP
  dsimp only
  generalize ew : (ld + Vbndao.winnerIndex x t) % hs.length = w at hw ⊢
  refine rt_seq (nx_set (d := dN w) ((ev_modN (ev_addN ev_var (ev_call (x, t) h1 (ea_cons ev_var (ea_cons ev_var ea_nil)))) (ev_lenM ev_var) h2).to (congrArg dN ew))) ?_
  refine rt_seq (nx_set (d := dN (Vbndao.trickValueOf x + (t.map (Vbndao.cardValue x)).sum)) (ev_addN (evd C ev_var fn_Deal_trick_points rfl) (ev_sumN ((EvO.ev (evO_lcm t dN (fun z => dN (Vbndao.cardValue x z)) (fun c G => G.set 7 (some (.pl (dN c)))) [7] (ei_list ev_var) (fun _ _ => tg_name)
    (fun z hz => ev_call (x, z) (h1.2.2.1 z hz).2.1 (ea_cons ev_var (ea_cons ev_var ea_nil))) (fun j h => h) (szl (Nat.le_trans h1.2.1 (by decide))))).to (by show _ = dL ((t.map _).map dN); rw [List.map_map]; rfl))))) ?_
  have hg : (hs.map dNs)[w]? = some (dNs (hs.getD w [])) := by
    rw [List.getElem?_map, List.getD_eq_getElem?_getD, List.getElem?_eq_getElem hw]
    rfl
  have hsd : (x.seats.map fun s => s.side).map dN = (x.seats.map fun s => dN s.side) := by rw [List.map_map]; rfl
  have hside : ((x.seats.map fun s => s.side).map dN)[w]? = some (dN (Vbndao.sideOf x w)) := by
    rw [hsd, List.getElem?_map]
    unfold Vbndao.sideOf
    rw [List.getElem?_eq_getElem (by omega)]
    rfl
  generalize hs.getD w [] = hd at hg ⊢
  generalize Vbndao.trickValueOf x + (t.map (Vbndao.cardValue x)).sum = m
  have fin : ∀ {G : En} (m' : Nat), G[0]? = some (some (.pl (dDeal K x))) → G[1]? = some (some (.pl (dL (hs.map dNs)))) → G[5]? = some (some (.pl (dN w))) → G[4]? = some (some (.pl (dT K [dN s1, dN s2]))) → G[6]? = some (some (.pl (dN m'))) →
      Rt (tRet (tMake (He.ga K "Position") (sp_Position K) [] E0 (tCons (tVar 1) (tCons (tLst tNil) (tCons (tVar 5) (tCons (tCall (sp_with_points K) [] E0 (tCons (tVar 4) (tCons (tOp (rIxL K) (tFld K (tVar 0) "sides") (tVar 5)) (tCons (tVar 6) tNil)))) tNil)))))) G W
        (rD (dPos K { hands := hs, leader := w, trick := [], scores := Vbndao.addScore x w m' (s1, s2) })) := fun {G} m' g0 g1 g5 g4 g6 => by
    refine rt_ret (ev_newPos _ (ea_cons (ev_var g1) (ea_cons (EvO.ev (evO_lst ea_nil)) (ea_cons (ev_var g5) (ea_cons ?_ ea_nil)))))
    refine (ev_call ((s1, s2), Vbndao.sideOf x w, m') trivial (ea_cons (ev_var g4) (ea_cons (ev_ixL (j := w) (evd C (ev_var g0) fn_Deal_sides rfl) (ev_var g5) hside) (ea_cons (ev_var g6) ea_nil)))).to ?_
    dsimp only
    unfold Vbndao.addScore
    split <;> rfl
  by_cases e : hd = []
  · subst e
    rw [if_pos rfl]
    exact rt_seq (nx_ifT ((et_test (ev_isNil (ev_ixL (j := w) ev_var ev_var hg))).to rfl) (nx_set (d := dN (m + Vbndao.lastTrickBonusOf x)) (ev_addN ev_var (evd C ev_var fn_Deal_last_points rfl)))) (fin _ rfl rfl rfl rfl rfl)
  · rw [if_neg e]
    exact rt_seq (nx_ifF ((et_test (ev_isNil (ev_ixL (j := w) ev_var ev_var hg))).to (List.isEmpty_eq_false_iff.mpr e)) nx_skip) (fin m rfl rfl rfl rfl rfl)
theorem ok_behind_trick {P : Program} {w : World} {K : PySem.W.Frag} {mg : Str → Option Value} {base : Heap} (C : Ctx K mg) : Ok P w K mg base 3 "behind_trick" ["deal", "hands", "trick", "leader", "points"] (sp_behind_trick K) :=
  ok_gen C 33 rfl rfl sc_behind_trick fg_behind_trick (fun _ _ _ _ _ _ hr o => dv_behind_trick o (fun _ => rfl) ((ok_winning_place C).cal hr (by decide)) ((ok_worth C).cal hr (by decide)) ((ok_with_points C).cal hr (by decide)) ((okM_Position C).mak hr (by decide))) (fun _ _ _ _ _ _ us hl => match us, hl with | [_, _, _, _, _], _ => rfl) (len_of fun _ => rfl) fun _ _ _ _ h => reads_of (ev_behind_trick C) h
end
end Fd

namespace Fd
open PySem PySem.Spec PyProof.Rows L2
open Vbndao (Deal Position)
section
variable {K : PySem.W.Frag} {mg : Str → Option Value}
/-! ### loops over described things -/
theorem Sat.forgets {W : Wd} {G : En} {σ : L2.St} (h : Sat G σ W) : ∀ js : List Nat, Sat (wipeE G js) σ W
  | [] => h
  | j :: js => (Sat.forgets h js).forget j
theorem nx_forget {t : TS} {G G1 : En} {W : Wd} (h : Nx t G W G1) (js : List Nat) : Nx t G W (wipeE G1 js) := fun σ W1 l s D q => h σ W1 l s D fun σ' W2 l2 f2 s2 => q σ' W2 l2 f2 (s2.forgets js)
theorem nx_forK {α : Type} {W : Wd} {wi : TI} {g : TG} {tb : TS} (xs : List α) (dx : α → Dsc) (E : Nat → En) (fE : α → En → En) (js ks : List Nat) (hi : EvI wi (E 0) W (xs.map dx)) (hg : ∀ a ∈ xs, Tg g (dx a) (fE a) js)
    (hs : ∀ (i : Nat) a, xs[i]? = some a → ∃ G1, Nx tb (fE a (E i)) W G1 ∧ wipeE G1 ks = E (i + 1)) : Nx (tFor wi g tb) (E 0) W (E xs.length) := by
  have h := nx_for (tb := tb) (g := g) (xs.map dx) E (fun i => match xs[i]? with | some a => fE a | none => id) js hi (fun i d hd => ?_) fun i hl => ?_
  · rw [List.length_map] at h
    exact h
  · rw [List.getElem?_map] at hd
    cases e : xs[i]? with
    | none => rw [e] at hd; cases hd
    | some a =>
      rw [e] at hd
      cases hd
      exact hg a (List.mem_of_getElem? e)
  · rw [List.length_map] at hl
    have e : xs[i]? = some xs[i] := List.getElem?_eq_getElem hl
    rw [e]
    obtain ⟨G1, h1, h2⟩ := hs i _ e
    rw [← h2]
    exact nx_forget h1 ks
theorem nx_forM {α : Type} {W : Wd} {wi : TI} {g : TG} {tb : TS} (xs : List α) (dx : α → Dsc) (E : Nat → En) (fE : α → En → En) (js : List Nat) (hi : EvI wi (E 0) W (xs.map dx)) (hg : ∀ a ∈ xs, Tg g (dx a) (fE a) js)
    (hs : ∀ (i : Nat) a, xs[i]? = some a → ∃ G1, Nx tb (fE a (E i)) W G1 ∧ wipeE G1 js = E (i + 1)) : Nx (tFor wi g tb) (E 0) W (E xs.length) := nx_forK xs dx E fE js js hi hg hs
theorem rt_forM {α : Type} {W : Wd} {wi : TI} {g : TG} {tb u : TS} {R : V → Wd → Prop} (xs : List α) (dx : α → Dsc) (E : Nat → En) (fE : α → En → En) (js ks : List Nat) (m : Nat) (hm : m ≤ xs.length) (hi : EvI wi (E 0) W (xs.map dx)) (hg : ∀ a ∈ xs, Tg g (dx a) (fE a) js)
    (hs : ∀ (i : Nat) a, i < m → xs[i]? = some a → ∃ G1, Nx tb (fE a (E i)) W G1 ∧ wipeE G1 ks = E (i + 1)) (hr : ∀ a, xs[m]? = some a → Rt tb (fE a (E m)) W R) (ha : m = xs.length → Rt u (E m) W R) : Rt (tSeq (tFor wi g tb) u) (E 0) W R := by
  refine rt_forR (xs.map dx) E (fun i => match xs[i]? with | some a => fE a | none => id) js m (by rw [List.length_map]; exact hm) hi (fun i d hd => ?_) (fun i hl => ?_) (fun hl => ?_) fun h => ha (by rw [List.length_map] at h; exact h)
  · rw [List.getElem?_map] at hd
    cases e : xs[i]? with
    | none => rw [e] at hd; cases hd
    | some a =>
      rw [e] at hd
      cases hd
      exact hg a (List.mem_of_getElem? e)
  · have e : xs[i]? = some xs[i] := List.getElem?_eq_getElem (by omega)
    rw [e]
    obtain ⟨G1, h1, h2⟩ := hs i _ hl e
    rw [← h2]
    exact nx_forget h1 ks
  · rw [List.length_map] at hl
    have e : xs[m]? = some xs[m] := List.getElem?_eq_getElem hl
    rw [e]
    exact hr _ e
theorem take_get {α : Type} {xs : List α} {i : Nat} {a : α} (h : xs[i]? = some a) : xs.take (i + 1) = xs.take i ++ [a] := by rw [List.take_add_one, h]; rfl
theorem ei_rangeM {G : En} {W : Wd} {te : TE} {n : Nat} (h : Ev te G W (dI (n : Int))) (hn : n < 2 ^ 62) : EvI (iRng1 (tCons te tNil)) G W ((List.range n).map fun (i : Nat) => dN i) := by
  have := ei_range1 h hn
  rw [show ((List.range n).map fun (i : Nat) => dI (0 + (i : Int))) = (List.range n).map fun (i : Nat) => dN i from List.map_congr_left fun i _ => by rw [Int.zero_add]] at this
  exact this
theorem behind_is {x : Deal} {p : Position} {c : Nat} (g : Good x p) (hc : c ∈ Vbndao.legalCards x p) (hf : ¬ p.trick.length + 1 < x.seats.length) : behindP x (handsAfter x p c) (p.trick ++ [c]) p.leader p.scores = Vbndao.playCard x p c := by
  rw [play_eq g, if_neg hf]
  unfold behindP fullAfter
  dsimp only
  have hl : (handsAfter x p c).length = x.seats.length := by rw [after_len, g.hands]
  rw [hl, full_all g (legal_sub hc) hf rfl]
  congr 2
  by_cases e : (handsAfter x p c).getD ((p.leader + Vbndao.winnerIndex x (p.trick ++ [c])) % x.seats.length) [] = []
  · rw [if_pos e, if_pos (decide_eq_true e)]
  · rw [if_neg e, if_neg (by rw [decide_eq_true_eq]; exact e)]
def sp_after (K : PySem.W.Frag) : Sp := spOf (fun a : Deal × Position × Nat => Good a.1 a.2.1 ∧ a.2.2 ∈ Vbndao.legalCards a.1 a.2.1) (fun a => [dDeal K a.1, dPos K a.2.1, dN a.2.2]) (fun a => dPos K (Vbndao.playCard a.1 a.2.1 a.2.2))
/-! after -/
def N_after : List Str := ["deal", "position", "card", "hands", "trick", "hand", "one"]
theorem sc_after : FnScope ["deal", "position", "card", "hands", "trick", "hand", "one"] ["deal", "position", "card"] (defScope s_after) := ⟨rfl, rfl, rfl, by decide +kernel, rfl, by decide +kernel, by decide +kernel⟩
theorem nm_after : nmB ["deal", "position", "card", "hands", "trick", "hand", "one"] (defScope s_after) [1, 2, 4, 3, 0] [3, 4] ["len", "Position", "behind_trick"] = true := by decide +kernel
def t_after (K : PySem.W.Frag) : TS := tSeq (tAsg (tLc (iList K (tFld K (tVar 1) "hands")) (gName 5) (tYes) (tLc (iList K (tVar 5)) (gName 6) (tTest (tOp rNe (tVar 6) (tVar 2))) (tVar 6) [6]) [5]) (gName 3)) (tSeq (tAsg (tOp rCat (tFld K (tVar 1) "trick") (tLst (tCons (tVar 2) (tNil)))) (gName 4)) (tSeq (tIfS (tTest (tOp oLt (tCB (cLen K) (tCons (tVar 4) (tNil))) (tCB (cLen K) (tCons (tVar 3) (tNil))))) (tRet (tMake (He.ga K "Position") (sp_Position K) [] E0 (tCons (tVar 3) (tCons (tVar 4) (tCons (tFld K (tVar 1) "leader") (tCons (tFld K (tVar 1) "points") (tNil))))))) (tNext)) (tRet (tCall (sp_behind_trick K) [] E0 (tCons (tVar 0) (tCons (tVar 3) (tCons (tVar 4) (tCons (tFld K (tVar 1) "leader") (tCons (tFld K (tVar 1) "points") (tNil))))))))))
theorem dv_after {X : Cx} (o0 : On fa X ["deal", "position", "card", "hands", "trick", "hand", "one"] (defScope s_after)) (hf : ∀ x, X.fn x = true) (c_Position : Mak X "Position" (He.ga X.K "Position") (sp_Position X.K)) (c_behind_trick : Cal X "behind_trick" (sp_behind_trick X.K)) : PSs X (defBody s_after) (t_after X.K) := by
  have n0 := nm_after
  exact pss_cons (asetLc o0 sc_after.kind (i := 3) (own := [("hand", 5)]) rfl (by decide +kernel) (by decide +kernel) (pi_list (pe_fld (av o0 n0 1 (gm 0 rfl) rfl) rfl)) (o0.ok (own := [("hand", 5)]) (by decide +kernel)) (fun s1 H1 C1 l1 p1 => let o1 := o0.blk s1 H1 _ C1 l1 p1; agb o1 5 rfl (by decide +kernel)) (fun _ _ _ _ _ => pts_nil) (fun s1 H1 C1 l1 p1 => (fun (n1 : nmB _ (relS _ _) [5] [] [] = true) => let o1 := o0.blk s1 H1 _ C1 l1 p1; pe_lc (own := [("one", 6)]) o1.calm o1.nd (pi_list (av o1 n1 5 (gm 0 rfl) rfl)) (o1.ok (own := [("one", 6)]) (by decide +kernel)) (fun s2 H2 C2 l2 p2 => let o2 := o1.blk s2 H2 _ C2 l2 p2; agb o2 6 rfl (by decide +kernel)) (fun s2 H2 C2 l2 p2 => (fun (n2 : nmB _ (relS _ _) [6, 2] [] [] = true) => let o2 := o1.blk s2 H2 _ C2 l2 p2; pts_one (pt_cmpR op_ne (av o2 n2 6 (gm 0 rfl) rfl) (av o2 n2 2 (gm 1 rfl) rfl) (nomark _))) (by decide +kernel)) (fun s2 H2 C2 l2 p2 => (fun (n2 : nmB _ (relS _ _) [6, 2] [] [] = true) => let o2 := o1.blk s2 H2 _ C2 l2 p2; av o2 n2 6 (gm 0 rfl) rfl) (by decide +kernel))) (by decide +kernel))) (pss_cons (aset o0 n0 hf 4 (pe_op op_cat (pe_fld (av o0 n0 1 (gm 0 rfl) rfl) rfl) (pe_lst (pa_cons (av o0 n0 2 (gm 1 rfl) rfl) (pa_nil)))) (gm 1 rfl) rfl) (pss_cons (ps_if (pt_cmpR op_lt (acb o0 n0 call_len_seq (by decide +kernel) (pa_cons (av o0 n0 4 (gm 2 rfl) rfl) (pa_nil)) (gm 0 rfl) f_len) (acb o0 n0 call_len_seq (by decide +kernel) (pa_cons (av o0 n0 3 (gm 3 rfl) rfl) (pa_nil)) (gm 0 rfl) f_len) (nomark _)) (pss_one (ps_ret (amake o0 n0 c_Position (pa_cons (av o0 n0 3 (gm 3 rfl) rfl) (pa_cons (av o0 n0 4 (gm 2 rfl) rfl) (pa_cons (pe_fld (av o0 n0 1 (gm 0 rfl) rfl) rfl) (pa_cons (pe_fld (av o0 n0 1 (gm 0 rfl) rfl) rfl) (pa_nil))))) (gm 1 rfl)))) (pss_nil)) (pss_one (ps_ret (acall o0 n0 c_behind_trick (pa_cons (av o0 n0 0 (gm 4 rfl) rfl) (pa_cons (av o0 n0 3 (gm 3 rfl) rfl) (pa_cons (av o0 n0 4 (gm 2 rfl) rfl) (pa_cons (pe_fld (av o0 n0 1 (gm 0 rfl) rfl) rfl) (pa_cons (pe_fld (av o0 n0 1 (gm 0 rfl) rfl) rfl) (pa_nil)))))) (gm 2 rfl))))))
theorem ne_dec (c d : Nat) : (!decide ((d : Int) = (c : Int))) = (d != c) := by
  rw [Bool.eq_iff_iff, Bool.not_eq_true', decide_eq_false_iff_not, bne_iff_ne]
  omega
theorem ev_after (C : Ctx K mg) : ∀ a : Deal × Position × Nat, (Good a.1 a.2.1 ∧ a.2.2 ∈ Vbndao.legalCards a.1 a.2.1) → ∀ W, Rt (t_after K) (envOf ["deal", "position", "card", "hands", "trick", "hand", "one"] [dDeal K a.1, dPos K a.2.1, dN a.2.2]) W (rD (dPos K (Vbndao.playCard a.1 a.2.1 a.2.2))) := fun ⟨x, p, c⟩ ⟨g, hc⟩ W => by
  dsimp only at g hc ⊢
  have hh := g.hands
  have hn := g.n4
  have hn2 := g.n2
  have ht := g.trick
  refine rt_seq (nx_set (d := dL ((handsAfter x p c).map dNs)) ((EvO.ev (evO_lcm p.hands dNs (fun h => dNs (h.filter fun d => d != c)) (fun h G => G.set 5 (some (.pl (dNs h)))) [5] (ei_list (evp C ev_var fn_Position_hands rfl)) (fun _ _ => tg_name)
    (fun h hm => EvO.ev (evO_lc h dN (fun (d : Nat) => d != c) dN (fun d G => G.set 6 (some (.pl (dN d)))) [6] (ei_list ev_var) (fun _ _ => tg_name) (fun d _ => et_test ((ev_neI ev_var ev_var).to (by rw [ne_dec]))) (fun d _ _ => ev_var) (fun j h => h) (szl ?_))) (fun j h => h) (szl (by omega)))).to ?_)) ?_
  · obtain ⟨m, h1, _, _, h4⟩ := g.sizes
    obtain ⟨j, hj, rfl⟩ := List.getElem_of_mem hm
    obtain ⟨i, hi, ei⟩ := rot_onto (a := p.leader) (j := j) g.lead (by omega)
    have := h4 i hi
    rw [ei, List.getD_eq_getElem?_getD, List.getElem?_eq_getElem hj] at this
    change p.hands[j].length + _ = _ at this
    omega
  · rw [← hands_all g (legal_sub hc), List.map_map]
    rfl
  refine rt_seq (nx_set (d := dNs (p.trick ++ [c])) ((EvO.ev (evO_cat (evp C ev_var fn_Position_trick rfl) (EvO.ev (evO_lst (ea_cons ev_var ea_nil))) (by rw [List.length_map]; exact szk (by show p.trick.length + 1 ≤ _; omega)))).to (by show _ = dL (List.map dN (p.trick ++ [c])); rw [List.map_append]; rfl))) ?_
  refine rt_ifR (b := decide (p.trick.length + 1 < x.seats.length)) ((et_test (ev_I0 (ev_lenM ev_var) (ev_lenM ev_var))).to ?_) (fun e => ?_) fun e => ?_
  · rw [List.length_append, after_len, hh]
    exact decide_eq_decide.mpr (by show ((p.trick.length + 1 : Nat) : Int) < _ ↔ _; omega)
  · rw [decide_eq_true_eq] at e
    refine rt_ret ((ev_newPos { p with hands := handsAfter x p c, trick := p.trick ++ [c] } (ea_cons ev_var (ea_cons ev_var (ea_cons (evp C (p := p) ev_var fn_Position_leader rfl) (ea_cons (evp C (p := p) ev_var fn_Position_points rfl) ea_nil))))).to ?_)
    rw [play_eq g, if_pos e]
  · rw [decide_eq_false_iff_not] at e
    obtain ⟨c1, c2⟩ := card_after g (legal_sub hc)
    refine rt_ret ((ev_call (x, handsAfter x p c, p.trick ++ [c], p.leader, p.scores) ⟨⟨by simp, by rw [List.length_append]; show p.trick.length + 1 ≤ _; omega, fun e he => c1 e (List.mem_append_left _ he), (List.nodup_append.mp c2).1⟩, by show 0 < (handsAfter x p c).length; rw [after_len]; omega, by show (handsAfter x p c).length = _; rw [after_len, hh]⟩
      (ea_cons ev_var (ea_cons ev_var (ea_cons ev_var (ea_cons (evp C ev_var fn_Position_leader rfl) (ea_cons (evp C ev_var fn_Position_points rfl) ea_nil)))))).to ?_)
    rw [← behind_is g hc e]
theorem ok_after {P : Program} {w : World} {K : PySem.W.Frag} {mg : Str → Option Value} {base : Heap} (C : Ctx K mg) : Ok P w K mg base 4 "after" ["deal", "position", "card"] (sp_after K) :=
  ok_gen C 34 rfl rfl sc_after fg_after (fun _ _ _ _ _ _ hr o => dv_after o (fun _ => rfl) ((okM_Position C).mak hr (by decide)) ((ok_behind_trick C).cal hr (by decide))) (fun _ _ _ _ _ _ us hl => match us, hl with | [_, _, _], _ => rfl) (len_of fun _ => rfl) fun _ _ _ _ h => reads_of (ev_after C) h
def sp_position_after (K : PySem.W.Frag) : Sp := spOf (fun a : Deal × List Nat => DealOk a.1 ∧ Run a.1 (Vbndao.initialPosition a.1) a.2) (fun a => [dDeal K a.1, dNs a.2]) (fun a => dPos K (runTo a.1 (Vbndao.initialPosition a.1) a.2))
/-! position_after -/
def N_position_after : List Str := ["deal", "cards", "found", "card"]
theorem sc_position_after : FnScope ["deal", "cards", "found", "card"] ["deal", "cards"] (defScope s_position_after) := ⟨rfl, rfl, rfl, by decide +kernel, rfl, by decide +kernel, by decide +kernel⟩
theorem nm_position_after : nmB ["deal", "cards", "found", "card"] (defScope s_position_after) [0, 1, 2, 3] [2, 3] ["beginning", "after"] = true := by decide +kernel
def t_position_after (K : PySem.W.Frag) : TS := tSeq (tAsg (tCall (sp_beginning K) [] E0 (tCons (tVar 0) (tCons (tFld K (tVar 0) "hands") (tNil)))) (gName 2)) (tSeq (tFor (iList K (tVar 1)) (gName 3) (tAsg (tCall (sp_after K) [] E0 (tCons (tVar 0) (tCons (tVar 2) (tCons (tVar 3) (tNil))))) (gName 2))) (tRet (tVar 2)))
theorem dv_position_after {X : Cx} (o0 : On fa X ["deal", "cards", "found", "card"] (defScope s_position_after)) (hf : ∀ x, X.fn x = true) (c_beginning : Cal X "beginning" (sp_beginning X.K)) (c_after : Cal X "after" (sp_after X.K)) : PSs X (defBody s_position_after) (t_position_after X.K) := by
  have n0 := nm_position_after
  exact pss_cons (aset o0 n0 hf 2 (acall o0 n0 c_beginning (pa_cons (av o0 n0 0 (gm 0 rfl) rfl) (pa_cons (pe_fld (av o0 n0 0 (gm 0 rfl) rfl) rfl) (pa_nil))) (gm 0 rfl)) (gm 0 rfl) rfl) (pss_cons (ps_for o0.nev o0.calm (pi_list (av o0 n0 1 (gm 1 rfl) rfl)) (ag o0 n0 hf 3 (gm 1 rfl) rfl) (pss_one (aset o0 n0 hf 2 (acall o0 n0 c_after (pa_cons (av o0 n0 0 (gm 0 rfl) rfl) (pa_cons (av o0 n0 2 (gm 2 rfl) rfl) (pa_cons (av o0 n0 3 (gm 3 rfl) rfl) (pa_nil)))) (gm 1 rfl)) (gm 0 rfl) rfl))) (pss_one (ps_ret (av o0 n0 2 (gm 2 rfl) rfl))))
theorem run_at {x : Deal} : ∀ {l : List Nat} {p : Position}, Run x p l → ∀ {i : Nat} {c : Nat}, l[i]? = some c → c ∈ Vbndao.legalCards x (runTo x p (l.take i))
  | [], _, _, _, _, h => by cases h
  | c :: l, p, h, 0, d, e => by
    cases e
    exact h.1
  | c :: l, p, h, i + 1, d, e => run_at h.2 e
theorem ev_position_after (C : Ctx K mg) : ∀ a : Deal × List Nat, (DealOk a.1 ∧ Run a.1 (Vbndao.initialPosition a.1) a.2) → ∀ W, Rt (t_position_after K) (envOf ["deal", "cards", "found", "card"] [dDeal K a.1, dNs a.2]) W (rD (dPos K (runTo a.1 (Vbndao.initialPosition a.1) a.2))) := fun ⟨x, l⟩ ⟨o, r⟩ W => by
  dsimp only at o r ⊢
  refine rt_seq (nx_set (d := dPos K (Vbndao.initialPosition x)) ((ev_call (x, x.seats.map fun s => s.cards) trivial (ea_cons ev_var (ea_cons ((evd C ev_var fn_Deal_hands rfl).to (by show _ = dL (List.map _ (List.map _ _)); rw [List.map_map]; rfl)) ea_nil))).to rfl)) ?_
  refine rt_seq (nx_forM l dN (fun i => [some (.pl (dDeal K x)), some (.pl (dNs l)), some (.pl (dPos K (runTo x (Vbndao.initialPosition x) (l.take i)))), none]) (fun c G => G.set 3 (some (.pl (dN c)))) [3] (ei_list ev_var) (fun _ _ => tg_name) fun i c hc => ⟨_, nx_set (ev_call (x, _, c) ⟨(run_good (good_start o) (run_take i r)).1, run_at r hc⟩ (ea_cons ev_var (ea_cons ev_var (ea_cons ev_var ea_nil)))), ?_⟩) ?_
  · try dsimp only
    rw [take_get hc]
    unfold runTo
    rw [List.foldl_append]
    rfl
  · try dsimp only
    rw [List.take_length]
    exact rt_ret ev_var
theorem ok_position_after {P : Program} {w : World} {K : PySem.W.Frag} {mg : Str → Option Value} {base : Heap} (C : Ctx K mg) : Ok P w K mg base 5 "position_after" ["deal", "cards"] (sp_position_after K) :=
  ok_gen C 35 rfl rfl sc_position_after fg_position_after (fun _ _ _ _ _ _ hr o => dv_position_after o (fun _ => rfl) ((ok_beginning C).cal hr (by decide)) ((ok_after C).cal hr (by decide))) (fun _ _ _ _ _ _ us hl => match us, hl with | [_, _], _ => rfl) (len_of fun _ => rfl) fun _ _ _ _ h => reads_of (ev_position_after C) h
def turnL (p : Position) : List Int := [if Vbndao.isOver p = true then -1 else (seatOf p : Int), (p.scores.1 : Int), (p.scores.2 : Int)]
def sp_turn_information (K : PySem.W.Frag) : Sp := spOf (fun a : Position => 0 < a.hands.length ∧ a.hands.length ≤ 4) (fun a => [dPos K a]) (fun a => dIs (turnL a))
/-! turn_information -/
def N_turn_information : List Str := ["position", "seat"]
theorem sc_turn_information : FnScope ["position", "seat"] ["position"] (defScope s_turn_information) := ⟨rfl, rfl, rfl, by decide +kernel, rfl, by decide +kernel, by decide +kernel⟩
theorem nm_turn_information : nmB ["position", "seat"] (defScope s_turn_information) [0, 1] [1] ["is_over", "NO_SEAT", "seat_to_move"] = true := by decide +kernel
def t_turn_information (K : PySem.W.Frag) : TS := tSeq (tAsg (tIf (tB (tCall (sp_is_over K) [] E0 (tCons (tVar 0) (tNil)))) (tC (.int (-1))) (tCall (sp_seat_to_move K) [] E0 (tCons (tVar 0) (tNil)))) (gName 1)) (tRet (tLst (tCons (tVar 1) (tCons (tOp (rIxT K) (tFld K (tVar 0) "points") (tC (.int 0))) (tCons (tOp (rIxT K) (tFld K (tVar 0) "points") (tC (.int 1))) (tNil))))))
theorem dv_turn_information {X : Cx} (o0 : On fa X ["position", "seat"] (defScope s_turn_information)) (hf : ∀ x, X.fn x = true) (c_is_over : Cal X "is_over" (sp_is_over X.K)) (c_seat_to_move : Cal X "seat_to_move" (sp_seat_to_move X.K)) : PSs X (defBody s_turn_information) (t_turn_information X.K) := by
  have n0 := nm_turn_information
  exact pss_cons (aset o0 n0 hf 1 (pe_ifExp (pt_val (acall o0 n0 c_is_over (pa_cons (av o0 n0 0 (gm 0 rfl) rfl) (pa_nil)) (gm 0 rfl))) (agi o0 n0 (gm 1 rfl) f_NO_SEAT) (acall o0 n0 c_seat_to_move (pa_cons (av o0 n0 0 (gm 0 rfl) rfl) (pa_nil)) (gm 2 rfl))) (gm 0 rfl) rfl) (pss_one (ps_ret (pe_lst (pa_cons (av o0 n0 1 (gm 1 rfl) rfl) (pa_cons (pe_ix ix_tup (pe_fld (av o0 n0 0 (gm 0 rfl) rfl) rfl) (pe_int) (fun _ _ => rfl)) (pa_cons (pe_ix ix_tup (pe_fld (av o0 n0 0 (gm 0 rfl) rfl) rfl) (pe_int) (fun _ _ => rfl)) (pa_nil)))))))
theorem ev_turn_information (C : Ctx K mg) : ∀ a : Position, (0 < a.hands.length ∧ a.hands.length ≤ 4) → ∀ W, Rt (t_turn_information K) (envOf ["position", "seat"] [dPos K a]) W (rD (dIs (turnL a))) := fun p ⟨h1, h2⟩ W => by
  refine rt_seq (nx_set (d := dI (if Vbndao.isOver p = true then -1 else (seatOf p : Int))) (ev_if (et_B (ev_call p h2 (ea_cons ev_var ea_nil))) (fun e => ?_) fun e => ?_)) ?_
  · rw [if_pos e]; exact ev_c
  · rw [if_neg (by rw [e]; decide)]
    exact ev_call p h1 (ea_cons ev_var ea_nil)
  · exact rt_frz (rt_retO (evO_lst (ea_cons ev_var (ea_cons (ev_ixT (j := 0) (evp C ev_var fn_Position_points rfl) ev_c rfl) (ea_cons (ev_ixT (j := 1) (evp C ev_var fn_Position_points rfl) ev_c rfl) ea_nil)))))
theorem ok_turn_information {P : Program} {w : World} {K : PySem.W.Frag} {mg : Str → Option Value} {base : Heap} (C : Ctx K mg) : Ok P w K mg base 3 "turn_information" ["position"] (sp_turn_information K) :=
  ok_gen C 36 rfl rfl sc_turn_information fg_turn_information (fun _ _ _ _ _ _ hr o => dv_turn_information o (fun _ => rfl) ((ok_is_over C).cal hr (by decide)) ((ok_seat_to_move C).cal hr (by decide))) (fun _ _ _ _ _ _ us hl => match us, hl with | [_], _ => rfl) (len_of fun _ => rfl) fun _ _ _ _ h => reads_of (ev_turn_information C) h
def sp_cards_elsewhere (K : PySem.W.Frag) : Sp := spOf (fun a : Deal × Position => Good a.1 a.2) (fun a => [dPos K a.2]) (fun a => dNs (Vbndao.otherCards a.1 a.2))
/-! cards_elsewhere -/
def N_cards_elsewhere : List Str := ["position", "found", "seat", "hand"]
theorem sc_cards_elsewhere : FnScope ["position", "found", "seat", "hand"] ["position"] (defScope s_cards_elsewhere) := ⟨rfl, rfl, rfl, by decide +kernel, rfl, by decide +kernel, by decide +kernel⟩
theorem nm_cards_elsewhere : nmB ["position", "found", "seat", "hand"] (defScope s_cards_elsewhere) [0, 2, 1, 3] [1, 2, 3] ["list", "enumerate", "seat_to_move"] = true := by decide +kernel
def t_cards_elsewhere (K : PySem.W.Frag) : TS := tSeq (tAsg (tCB (cList K) (tCons (tFld K (tVar 0) "trick") (tNil))) (gName 1)) (tSeq (tFor (iEnum K (tCons (tFld K (tVar 0) "hands") (tNil))) (gTup K 2 (gCons (gName 2) (gCons (gName 3) (gNil)))) (tIfS (tTest (tOp rNe (tVar 2) (tCall (sp_seat_to_move K) [] E0 (tCons (tVar 0) (tNil))))) (tDrop (tBM K "list" rExtend (tVar 1) (tCons (tVar 3) (tNil)))) (tNext))) (tRet (tVar 1)))
theorem dv_cards_elsewhere {X : Cx} (o0 : On fa X ["position", "found", "seat", "hand"] (defScope s_cards_elsewhere)) (hf : ∀ x, X.fn x = true) (c_seat_to_move : Cal X "seat_to_move" (sp_seat_to_move X.K)) : PSs X (defBody s_cards_elsewhere) (t_cards_elsewhere X.K) := by
  have n0 := nm_cards_elsewhere
  exact pss_cons (aset o0 n0 hf 1 (act o0 n0 call_list_of (by decide +kernel) (pa_cons (pe_fld (av o0 n0 0 (gm 0 rfl) rfl) rfl) (pa_nil)) (gm 0 rfl) f_list) (gm 0 rfl) rfl) (pss_cons (ps_for o0.nev o0.calm (pi_enum (o0.gl n0 (gm 1 rfl)) (o0.gb.free f_enumerate) (pa_cons (pe_fld (av o0 n0 0 (gm 0 rfl) rfl) rfl) (pa_nil))) (pg_tup o0.calm (pgs_cons (ag o0 n0 hf 2 (gm 1 rfl) rfl) (pgs_cons (ag o0 n0 hf 3 (gm 2 rfl) rfl) (pgs_nil)))) (pss_one (ps_if (pt_cmpR op_ne (av o0 n0 2 (gm 1 rfl) rfl) (acall o0 n0 c_seat_to_move (pa_cons (av o0 n0 0 (gm 0 rfl) rfl) (pa_nil)) (gm 2 rfl)) (nomark _)) (pss_one (ps_expr (pe_bm PySem.F.plainAttrs_list PySem.F.slot_list_extend PySem.F.type_list_extend mt_extend (av o0 n0 1 (gm 2 rfl) rfl) (pa_cons (av o0 n0 3 (gm 3 rfl) rfl) (pa_nil))))) (pss_nil)))) (pss_one (ps_ret (av o0 n0 1 (gm 2 rfl) rfl))))
theorem other_len {x : Deal} {p : Position} (g : Good x p) : ∀ n, n ≤ p.hands.length → ((List.range n).foldl (fun a j => if j ≠ Vbndao.playerToMove x p then a ++ p.hands.getD j [] else a) p.trick).length ≤ 4 + 4 * n := by
  intro n
  induction n with
  | zero => intro _; have := g.trick; have := g.n4; show p.trick.length ≤ _; omega
  | succ n ih =>
    intro hn
    have := ih (by omega)
    rw [List.range_succ, List.foldl_append, List.foldl_cons, List.foldl_nil]
    split
    · obtain ⟨m, h1, _, _, h4⟩ := g.sizes
      have hh := g.hands
      obtain ⟨i, hi, ei⟩ := rot_onto (a := p.leader) (j := n) g.lead (by omega)
      have := h4 i hi
      rw [ei] at this
      rw [List.length_append]
      omega
    · omega
theorem ev_cards_elsewhere (C : Ctx K mg) : ∀ a : Deal × Position, Good a.1 a.2 → ∀ W, Rt (t_cards_elsewhere K) (envOf ["position", "found", "seat", "hand"] [dPos K a.2]) W (rD (dNs (Vbndao.otherCards a.1 a.2))) := fun ⟨x, p⟩ g W => by
  dsimp only at g ⊢
  have hn := g.n4
  have hh := g.hands
  obtain ⟨s1, s2⟩ := seat_good g
  rw [other_is]
  refine rt_seq (nx_setO (evO_list rfl (evp C ev_var fn_Position_trick rfl))) ?_
  refine rt_seq (nx_forM (List.range p.hands.length) (fun j => dT K [dN j, dNs (p.hands.getD j [])]) (fun i => [some (.pl (dPos K p)), some (.ow (ownL W (((List.range i).foldl (fun a j => if j ≠ Vbndao.playerToMove x p then a ++ p.hands.getD j [] else a) p.trick).map dN))), none, none])
    (fun j G => (G.set 2 (some (.pl (dN j)))).set 3 (some (.pl (dNs (p.hands.getD j []))))) [2, 3] ?_ (fun j _ => tg_tup (tgs_cons tg_name (tgs_cons tg_name tgs_nil))) fun i a ha => ?_) ?_
  · have h := ei_enum (K := K) (G := [some (.pl (dPos K p)), some (.ow (ownL W (p.trick.map dN))), none, none]) (W := W) (evp C (ev_var (i := 0)) fn_Position_hands rfl)
    unfold enumD at h
    rw [List.length_map] at h
    rw [show ((List.range p.hands.length).map fun (i : Nat) => dT K [dI (i : Int), ((p.hands.map dNs)[i]?).getD (dV .non)]) = (List.range p.hands.length).map fun j => dT K [dN j, dNs (p.hands.getD j [])] from List.map_congr_left fun j hj => by
      rw [List.getElem?_map, List.getD_eq_getElem?_getD, List.getElem?_eq_getElem (List.mem_range.mp hj)]
      rfl] at h
    exact h
  · have hi : i < p.hands.length := by
      have := (List.getElem?_eq_some_iff.mp ha).1
      rwa [List.length_range] at this
    rw [List.getElem?_range hi] at ha
    cases ha
    have hL := other_len g i (by omega)
    have ce : decide ((i : Int) = (seatOf p : Int)) = decide (i = Vbndao.playerToMove x p) := by rw [s2]; exact decide_eq_decide.mpr (by omega)
    have hc : ∀ {G : En}, G[2]? = some (some (.pl (dN i))) → G[0]? = some (some (.pl (dPos K p))) → EvT (tTest (tOp rNe (tVar 2) (tCall (sp_seat_to_move K) [] E0 (tCons (tVar 0) tNil)))) G W (!decide (i = Vbndao.playerToMove x p)) := fun g2 g0 => by
      rw [← ce]
      exact et_test (ev_neI (ev_var g2) (ev_call p s1 (ea_cons (ev_var g0) ea_nil)))
    by_cases e : i = Vbndao.playerToMove x p
    · refine ⟨_, nx_ifF ((hc rfl rfl).to (by rw [decide_eq_true e]; rfl)) nx_skip, ?_⟩
      rw [List.range_succ, List.foldl_append, List.foldl_cons, List.foldl_nil, if_neg (fun h => h e)]
      rfl
    · refine ⟨_, nx_ifT ((hc rfl rfl).to (by rw [decide_eq_false e]; rfl)) (nx_ext (i := 1) (ds := ((List.range i).foldl (fun a j => if j ≠ Vbndao.playerToMove x p then a ++ p.hands.getD j [] else a) p.trick).map dN) (es := (p.hands.getD i []).map dN) rfl rfl ev_var ?_), ?_⟩
      · rw [List.length_map, List.length_map]
        have h2 := other_len g (i + 1) (by omega)
        rw [List.range_succ, List.foldl_append, List.foldl_cons, List.foldl_nil, if_pos e, List.length_append] at h2
        exact szk (by omega)
      · rw [List.range_succ, List.foldl_append, List.foldl_cons, List.foldl_nil, if_pos e, List.map_append]
        rfl
  · rw [List.length_range]
    exact rt_frzV rfl
theorem ok_cards_elsewhere {P : Program} {w : World} {K : PySem.W.Frag} {mg : Str → Option Value} {base : Heap} (C : Ctx K mg) : Ok P w K mg base 2 "cards_elsewhere" ["position"] (sp_cards_elsewhere K) :=
  ok_gen C 37 rfl rfl sc_cards_elsewhere fg_cards_elsewhere (fun _ _ _ _ _ _ hr o => dv_cards_elsewhere o (fun _ => rfl) ((ok_seat_to_move C).cal hr (by decide))) (fun _ _ _ _ _ _ us hl => match us, hl with | [_], _ => rfl) (len_of fun _ => rfl) fun _ _ _ _ h => reads_of (ev_cards_elsewhere C) h
def sp_are_equivalent (K : PySem.W.Frag) : Sp := spOf (fun a : Deal × Position × Nat × Nat => Good a.1 a.2.1 ∧ a.2.2.1 % 16 ≤ 13 ∧ a.2.2.2 % 16 ≤ 13) (fun a => [dDeal K a.1, dPos K a.2.1, dN a.2.2.1, dN a.2.2.2]) (fun a => dB (eqvP a.1 (Vbndao.otherCards a.1 a.2.1) a.2.2.1 a.2.2.2))
/-! are_equivalent -/
def N_are_equivalent : List Str := ["deal", "position", "low", "high", "card"]
theorem sc_are_equivalent : FnScope ["deal", "position", "low", "high", "card"] ["deal", "position", "low", "high"] (defScope s_are_equivalent) := ⟨rfl, rfl, rfl, by decide +kernel, rfl, by decide +kernel, by decide +kernel⟩
theorem nm_are_equivalent : nmB ["deal", "position", "low", "high", "card"] (defScope s_are_equivalent) [2, 3, 0, 1] [] ["worth", "cards_elsewhere", "any"] = true := by decide +kernel
def t_are_equivalent (K : PySem.W.Frag) : TS := tSeq (tIfS (tOr (tTest (tOp rNe (tOp oDiv (tVar 2) (tC (.int 16))) (tOp oDiv (tVar 3) (tC (.int 16))))) (tTest (tOp rNe (tCall (sp_worth K) [] E0 (tCons (tVar 0) (tCons (tVar 2) (tNil)))) (tCall (sp_worth K) [] E0 (tCons (tVar 0) (tCons (tVar 3) (tNil))))))) (tRet (tC (.bl false))) (tNext)) (tRet (tNotV (tCB (rAny K) (tCons (tLc (iList K (tCall (sp_cards_elsewhere K) [] E0 (tCons (tVar 1) (tNil)))) (gName 4) (tYes) (tChain oLt oLt (tVar 2) (tVar 4) (tVar 3)) [4]) (tNil)))))
theorem dv_are_equivalent {X : Cx} (o0 : On fa X ["deal", "position", "low", "high", "card"] (defScope s_are_equivalent)) (hf : ∀ x, X.fn x = true) (c_worth : Cal X "worth" (sp_worth X.K)) (c_cards_elsewhere : Cal X "cards_elsewhere" (sp_cards_elsewhere X.K)) : PSs X (defBody s_are_equivalent) (t_are_equivalent X.K) := by
  have n0 := nm_are_equivalent
  exact pss_cons (ps_if (PW.pt (pw_or (pt_cmpR op_ne (pe_op op_fdiv (av o0 n0 2 (gm 0 rfl) rfl) (pe_int)) (pe_op op_fdiv (av o0 n0 3 (gm 1 rfl) rfl) (pe_int)) (nomark _)) (pw_or1 (pt_cmpR op_ne (acall o0 n0 c_worth (pa_cons (av o0 n0 0 (gm 2 rfl) rfl) (pa_cons (av o0 n0 2 (gm 0 rfl) rfl) (pa_nil))) (gm 0 rfl)) (acall o0 n0 c_worth (pa_cons (av o0 n0 0 (gm 2 rfl) rfl) (pa_cons (av o0 n0 3 (gm 1 rfl) rfl) (pa_nil))) (gm 0 rfl)) (nomark _))))) (pss_one (ps_ret (pe_bl))) (pss_nil)) (pss_one (ps_ret (pe_not (acb o0 n0 (cr_any o0.calm) (by decide +kernel) (pa_cons (pe_lc (own := [("card", 4)]) o0.calm o0.nd (pi_list (acall o0 n0 c_cards_elsewhere (pa_cons (av o0 n0 1 (gm 3 rfl) rfl) (pa_nil)) (gm 1 rfl))) (o0.ok (own := [("card", 4)]) (by decide +kernel)) (fun s1 H1 C1 l1 p1 => let o1 := o0.blk s1 H1 _ C1 l1 p1; agb o1 4 rfl (by decide +kernel)) (fun _ _ _ _ _ => pts_nil) (fun s1 H1 C1 l1 p1 => (fun (n1 : nmB _ (relS _ _) [2, 4, 3] [] [] = true) => let o1 := o0.blk s1 H1 _ C1 l1 p1; pe_chain op_lt op_lt (av o1 n1 2 (gm 0 rfl) rfl) (av o1 n1 4 (gm 1 rfl) rfl) (av o1 n1 3 (gm 2 rfl) rfl)) (by decide +kernel))) (pa_nil)) (gm 2 rfl) f_any))))
theorem ev_are_equivalent (C : Ctx K mg) : ∀ a : Deal × Position × Nat × Nat, (Good a.1 a.2.1 ∧ a.2.2.1 % 16 ≤ 13 ∧ a.2.2.2 % 16 ≤ 13) → ∀ W, Rt (t_are_equivalent K) (envOf ["deal", "position", "low", "high", "card"] [dDeal K a.1, dPos K a.2.1, dN a.2.2.1, dN a.2.2.2]) W (rD (dB (eqvP a.1 (Vbndao.otherCards a.1 a.2.1) a.2.2.1 a.2.2.2))) := fun ⟨x, p, l, h⟩ ⟨g, hl, hh⟩ W => by
  dsimp only at g hl hh ⊢
  have ho : (Vbndao.otherCards x p).length ≤ 100 := by
    rw [other_is]
    have := other_len g p.hands.length (Nat.le_refl _)
    have := g.hands
    have := g.n4
    omega
  refine rt_ifR (b := !decide (l / 16 = h / 16) || !decide (Vbndao.cardValue x l = Vbndao.cardValue x h)) (et_or ((et_test (ev_neI (ev_divN (k := 16) ev_var ev_c (by decide)) (ev_divN (k := 16) ev_var ev_c (by decide)))).to ?_) fun _ => (et_test (ev_neI (ev_call (x, l) hl (ea_cons ev_var (ea_cons ev_var ea_nil))) (ev_call (x, h) hh (ea_cons ev_var (ea_cons ev_var ea_nil))))).to ?_) (fun e => ?_) fun e => ?_
  · exact congrArg not (decide_eq_decide.mpr (by omega))
  · exact congrArg not (decide_eq_decide.mpr (by show ((Vbndao.cardValue x l : Nat) : Int) = ((Vbndao.cardValue x h : Nat) : Int) ↔ _; omega))
  · refine rt_ret (ev_c.to ?_)
    unfold eqvP
    by_cases e1 : l / 16 = h / 16
    · rw [decide_eq_true e1] at e ⊢
      rw [Bool.not_true, Bool.false_or, Bool.not_eq_true'] at e
      rw [e]
      rfl
    · rw [decide_eq_false e1]
      rfl
  · rw [Bool.or_eq_false_iff, Bool.not_eq_false', Bool.not_eq_false'] at e
    refine rt_ret ((ev_not (ev_any (bs := (Vbndao.otherCards x p).map fun e => decide (l < e) && decide (e < h)) ((EvO.ev (evO_lcm (Vbndao.otherCards x p) dN (fun e => dB (decide (l < e) && decide (e < h))) (fun c G => G.set 4 (some (.pl (dN c)))) [4] (ei_list (ev_call (x, p) g (ea_cons ev_var ea_nil))) (fun _ _ => tg_name) (fun c _ => (ev_chain rfl rfl ev_var ev_var ev_var).to ?_) (fun j h => h) (szl (by omega)))).to ?_))).to ?_)
    · rw [show decide ((l : Int) < (c : Int)) = decide (l < c) from decide_eq_decide.mpr Int.ofNat_lt, show decide ((c : Int) < (h : Int)) = decide (c < h) from decide_eq_decide.mpr Int.ofNat_lt]
    · rw [List.map_map]; rfl
    · unfold eqvP
      rw [e.1, e.2, List.any_map]
      rfl
theorem ok_are_equivalent {P : Program} {w : World} {K : PySem.W.Frag} {mg : Str → Option Value} {base : Heap} (C : Ctx K mg) : Ok P w K mg base 3 "are_equivalent" ["deal", "position", "low", "high"] (sp_are_equivalent K) :=
  ok_gen C 38 rfl rfl sc_are_equivalent fg_are_equivalent (fun _ _ _ _ _ _ hr o => dv_are_equivalent o (fun _ => rfl) ((ok_worth C).cal hr (by decide)) ((ok_cards_elsewhere C).cal hr (by decide))) (fun _ _ _ _ _ _ us hl => match us, hl with | [_, _, _, _], _ => rfl) (len_of fun _ => rfl) fun _ _ _ _ h => reads_of (ev_are_equivalent C) h
theorem legal_le {x : Deal} {p : Position} (g : Good x p) : (Vbndao.legalCards x p).length ≤ 4 := by
  have h := hand_le g
  unfold Vbndao.legalCards
  generalize Vbndao.handOf p (Vbndao.playerToMove x p) = l at h ⊢
  have f : ∀ q : Nat → Bool, (l.filter q).length ≤ 4 := fun q => Nat.le_trans (List.length_filter_le _ _) h
  cases p.trick with
  | nil => exact h
  | cons c r =>
    dsimp only
    split
    · exact f _
    · split
      · exact f _
      · exact h
/-- a card that stands for its likes -/
def repT (x : Deal) (p : Position) (c : Nat) : Bool := !(((Vbndao.legalCards x p).filter fun d => decide (d < c)).map fun d => eqvP x (Vbndao.otherCards x p) d c).any id
def sp_representatives (K : PySem.W.Frag) : Sp := spOwn (fun a : Deal × Position => Good a.1 a.2) (fun a => [dDeal K a.1, dPos K a.2]) (fun a => (repP a.1 a.2).map dN)
/-! representatives -/
def N_representatives : List Str := ["deal", "position", "legal", "found", "card", "low"]
theorem sc_representatives : FnScope ["deal", "position", "legal", "found", "card", "low"] ["deal", "position"] (defScope s_representatives) := ⟨rfl, rfl, rfl, by decide +kernel, rfl, by decide +kernel, by decide +kernel⟩
theorem nm_representatives : nmB ["deal", "position", "legal", "found", "card", "low"] (defScope s_representatives) [0, 1, 2, 3, 4] [2, 3, 4] ["legal_cards", "any"] = true := by decide +kernel
def t_representatives (K : PySem.W.Frag) : TS := tSeq (tPar 2 3 (tCons (tCall (sp_legal_cards K) [] E0 (tCons (tVar 0) (tCons (tVar 1) (tNil)))) (tCons (tLst (tNil)) (tNil)))) (tSeq (tFor (iList K (tVar 2)) (gName 4) (tIfS (tNot (tB (tCB (rAny K) (tCons (tLc (iList K (tVar 2)) (gName 5) (tTest (tOp oLt (tVar 5) (tVar 4))) (tCall (sp_are_equivalent K) [] E0 (tCons (tVar 0) (tCons (tVar 1) (tCons (tVar 5) (tCons (tVar 4) (tNil)))))) [5]) (tNil))))) (tDrop (tBM K "list" rAppend (tVar 3) (tCons (tVar 4) (tNil)))) (tNext))) (tRet (tVar 3)))
theorem dv_representatives {X : Cx} (o0 : On fa X ["deal", "position", "legal", "found", "card", "low"] (defScope s_representatives)) (hf : ∀ x, X.fn x = true) (c_legal_cards : Cal X "legal_cards" (sp_legal_cards X.K)) (c_are_equivalent : Cal X "are_equivalent" (sp_are_equivalent X.K)) : PSs X (defBody s_representatives) (t_representatives X.K) := by
  have n0 := nm_representatives
  exact pss_cons (apar o0 (i := 2) (j := 3) rfl rfl (by decide) (by decide +kernel) (by decide +kernel) (pa_cons (acall o0 n0 c_legal_cards (pa_cons (av o0 n0 0 (gm 0 rfl) rfl) (pa_cons (av o0 n0 1 (gm 1 rfl) rfl) (pa_nil))) (gm 0 rfl)) (pa_cons (pe_lst (pa_nil)) (pa_nil))) (by rfl)) (pss_cons (ps_for o0.nev o0.calm (pi_list (av o0 n0 2 (gm 2 rfl) rfl)) (ag o0 n0 hf 4 (gm 2 rfl) rfl) (pss_one (ps_if (pt_not (pt_val (acb o0 n0 (cr_any o0.calm) (by decide +kernel) (pa_cons (pe_lc (own := [("low", 5)]) o0.calm o0.nd (pi_list (av o0 n0 2 (gm 2 rfl) rfl)) (o0.ok (own := [("low", 5)]) (by decide +kernel)) (fun s1 H1 C1 l1 p1 => let o1 := o0.blk s1 H1 _ C1 l1 p1; agb o1 5 rfl (by decide +kernel)) (fun s1 H1 C1 l1 p1 => (fun (n1 : nmB _ (relS _ _) [5, 4, 0, 1] [] ["are_equivalent"] = true) => let o1 := o0.blk s1 H1 _ C1 l1 p1; pts_one (pt_cmpR op_lt (av o1 n1 5 (gm 0 rfl) rfl) (av o1 n1 4 (gm 1 rfl) rfl) (nomark _))) (by decide +kernel)) (fun s1 H1 C1 l1 p1 => (fun (n1 : nmB _ (relS _ _) [5, 4, 0, 1] [] ["are_equivalent"] = true) => let o1 := o0.blk s1 H1 _ C1 l1 p1; acall o1 n1 c_are_equivalent.blk (pa_cons (av o1 n1 0 (gm 2 rfl) rfl) (pa_cons (av o1 n1 1 (gm 3 rfl) rfl) (pa_cons (av o1 n1 5 (gm 0 rfl) rfl) (pa_cons (av o1 n1 4 (gm 1 rfl) rfl) (pa_nil))))) (gm 0 rfl)) (by decide +kernel))) (pa_nil)) (gm 1 rfl) f_any))) (pss_one (ps_expr (pe_bm PySem.F.plainAttrs_list PySem.F.slot_list_append PySem.F.type_list_append mt_append (av o0 n0 3 (gm 3 rfl) rfl) (pa_cons (av o0 n0 4 (gm 4 rfl) rfl) (pa_nil))))) (pss_nil)))) (pss_one (ps_ret (av o0 n0 3 (gm 3 rfl) rfl))))
theorem ev_representatives (C : Ctx K mg) : ∀ a : Deal × Position, Good a.1 a.2 → ∀ W, Rt (t_representatives K) (envOf ["deal", "position", "legal", "found", "card", "low"] [dDeal K a.1, dPos K a.2]) W (rO W ((repP a.1 a.2).map dN)) := fun ⟨x, p⟩ g W => by
  dsimp only at g ⊢
  have h4 := legal_le g
  refine rt_seq (nx_parO (ev_call (x, p) g (ea_cons ev_var (ea_cons ev_var ea_nil))) (evO_lst ea_nil)) ?_
  refine rt_seq (nx_forM (Vbndao.legalCards x p) dN (fun i => [some (.pl (dDeal K x)), some (.pl (dPos K p)), some (.pl (dNs (Vbndao.legalCards x p))), some (.ow (ownL W ((((Vbndao.legalCards x p).take i).filter (repT x p)).map dN))), none, none]) (fun c G => G.set 4 (some (.pl (dN c)))) [4] (ei_list ev_var) (fun _ _ => tg_name) fun i c hc => ?_) ?_
  · have hcm := legal_ok g (List.mem_of_getElem? hc)
    have tst : ∀ {G : En}, G[0]? = some (some (.pl (dDeal K x))) → G[1]? = some (some (.pl (dPos K p))) → G[2]? = some (some (.pl (dNs (Vbndao.legalCards x p)))) → G[4]? = some (some (.pl (dN c))) → (hG : (G.set 5 none)[0]? = G[0]? ∧ (G.set 5 none)[1]? = G[1]? ∧ (G.set 5 none)[4]? = G[4]?) → 5 < G.length →
        EvT (tNot (tB (tCB (rAny K) (tCons (tLc (iList K (tVar 2)) (gName 5) (tTest (tOp oLt (tVar 5) (tVar 4))) (tCall (sp_are_equivalent K) [] E0 (tCons (tVar 0) (tCons (tVar 1) (tCons (tVar 5) (tCons (tVar 4) (tNil)))))) [5]) (tNil))))) G W (repT x p c) := fun {G} g0 g1 g2 g4 hG hl5 => by
      have e5 : ∀ (v : Option Ty) (j : Nat), j ≠ 5 → ((G.set 5 none).set 5 v)[j]? = G[j]? := fun v j hj => by rw [List.getElem?_set_ne (Ne.symm hj), List.getElem?_set_ne (Ne.symm hj)]
      have e55 : ∀ (v : Option Ty), ((G.set 5 none).set 5 v)[5]? = some v := fun v => by rw [List.getElem?_set_self (by rw [List.length_set]; exact hl5)]
      refine et_not (et_B (ev_any (bs := ((Vbndao.legalCards x p).filter fun d => decide (d < c)).map fun d => eqvP x (Vbndao.otherCards x p) d c) ((EvO.ev (evO_lc (Vbndao.legalCards x p) dN (fun d => decide (d < c)) (fun d => dB (eqvP x (Vbndao.otherCards x p) d c)) (fun d G => G.set 5 (some (.pl (dN d)))) [5] (ei_list (ev_var g2)) (fun _ _ => tg_name)
        (fun d _ => (et_test (ev_I0 (ev_var (e55 _)) (ev_var (by rw [← g4]; exact e5 _ 4 (by decide))))).to (decide_eq_decide.mpr Int.ofNat_lt))
        (fun d hd _ => ev_call (x, p, d, c) ⟨g, (legal_ok g hd).2.1, hcm.2.1⟩ (ea_cons (ev_var (by rw [← g0]; exact e5 _ 0 (by decide))) (ea_cons (ev_var (by rw [← g1]; exact e5 _ 1 (by decide))) (ea_cons (ev_var (e55 _)) (ea_cons (ev_var (by rw [← g4]; exact e5 _ 4 (by decide))) ea_nil))))) (fun j h => h) (szl (by omega)))).to (by rw [List.map_map]; rfl))))
    rw [take_get hc, List.filter_append]
    by_cases e : repT x p c = true
    · refine ⟨_, nx_ifT ((tst rfl rfl rfl rfl ⟨rfl, rfl, rfl⟩ (by show 5 < 6; decide)).to e) (nx_app (i := 3) (ds := (((Vbndao.legalCards x p).take i).filter (repT x p)).map dN) rfl rfl ev_var (by
        rw [List.length_map]
        refine szl ?_
        have h1 := List.length_filter_le (repT x p) ((Vbndao.legalCards x p).take i)
        rw [List.length_take] at h1
        omega)), ?_⟩
      rw [List.filter_cons, if_pos e, List.filter_nil, List.map_append]
      rfl
    · refine ⟨_, nx_ifF ((tst rfl rfl rfl rfl ⟨rfl, rfl, rfl⟩ (by show 5 < 6; decide)).to (by simpa using e)) nx_skip, ?_⟩
      rw [List.filter_cons, if_neg e, List.filter_nil, List.append_nil]
      rfl
  · rw [List.take_length]
    exact rt_retV rfl
theorem ok_representatives {P : Program} {w : World} {K : PySem.W.Frag} {mg : Str → Option Value} {base : Heap} (C : Ctx K mg) : Ok P w K mg base 4 "representatives" ["deal", "position"] (sp_representatives K) :=
  ok_gen C 39 rfl rfl sc_representatives fg_representatives (fun _ _ _ _ _ _ hr o => dv_representatives o (fun _ => rfl) ((ok_legal_cards C).cal hr (by decide)) ((ok_are_equivalent C).cal hr (by decide))) (fun _ _ _ _ _ _ us hl => match us, hl with | [_, _], _ => rfl) (len_own fun _ => rfl) fun _ _ _ _ h => reads_own (ev_representatives C) h
abbrev RanksOk (x : Deal) : Prop := (∀ y ∈ x.rankValues, y.1 ≤ 13) ∧ (x.rankValues.map (·.1)).Nodup
def sp_worths_of (K : PySem.W.Frag) : Sp := spOf (fun a : Deal => RanksOk a) (fun a => [dSheet K a]) (fun a => dNs (worthsL a))
/-! worths_of -/
def N_worths_of : List Str := ["sheet", "found", "rank", "points"]
theorem sc_worths_of : FnScope ["sheet", "found", "rank", "points"] ["sheet"] (defScope s_worths_of) := ⟨rfl, rfl, rfl, by decide +kernel, rfl, by decide +kernel, by decide +kernel⟩
theorem nm_worths_of : nmB ["sheet", "found", "rank", "points"] (defScope s_worths_of) [0, 1, 2, 3] [1, 2, 3] ["RANKS", "range"] = true := by decide +kernel
def t_worths_of (K : PySem.W.Frag) : TS := tSeq (tAsg (tLc (iRng1 (tCons (tC (.int (14))) (tNil))) (gName 2) (tYes) (tC (.int 0)) [2]) (gName 1)) (tSeq (tFor (iList K (tFld K (tVar 0) "worths")) (gTup K 2 (gCons (gName 2) (gCons (gName 3) (gNil)))) (tAsg (tVar 3) (gSub (tVar 1) (tVar 2) rSetL))) (tRet (tVar 1)))
theorem dv_worths_of {X : Cx} (o0 : On fa X ["sheet", "found", "rank", "points"] (defScope s_worths_of)) (hf : ∀ x, X.fn x = true) : PSs X (defBody s_worths_of) (t_worths_of X.K) := by
  have n0 := nm_worths_of
  exact pss_cons (asetLc o0 sc_worths_of.kind (i := 1) (own := [("rank", 2)]) rfl (by decide +kernel) (by decide +kernel) (pi_range1 (o0.gl n0 (gm 1 rfl)) (o0.gb.free f_range) (pa_cons (agi o0 n0 (gm 0 rfl) f_RANKS) (pa_nil))) (o0.ok (own := [("rank", 2)]) (by decide +kernel)) (fun s1 H1 C1 l1 p1 => let o1 := o0.blk s1 H1 _ C1 l1 p1; agb o1 2 rfl (by decide +kernel)) (fun _ _ _ _ _ => pts_nil) (fun _ _ _ _ _ => pe_int)) (pss_cons (ps_for o0.nev o0.calm (pi_list (pe_fld (av o0 n0 0 (gm 0 rfl) rfl) rfl)) (pg_tup o0.calm (pgs_cons (ag o0 n0 hf 2 (gm 1 rfl) rfl) (pgs_cons (ag o0 n0 hf 3 (gm 2 rfl) rfl) (pgs_nil)))) (pss_one (ps_asg (av o0 n0 3 (gm 3 rfl) rfl) (pg_sub (av o0 n0 1 (gm 1 rfl) rfl) (av o0 n0 2 (gm 2 rfl) rfl) set_list)))) (pss_one (ps_ret (av o0 n0 1 (gm 1 rfl) rfl))))
theorem fold_len (l : List (Nat × Nat)) : ∀ a : List Nat, (l.foldl (fun a y => a.set y.1 y.2) a).length = a.length := by
  induction l with
  | nil => intro a; rfl
  | cons y l ih => intro a; rw [List.foldl_cons, ih, List.length_set]
theorem ev_worths_of (C : Ctx K mg) : ∀ a : Deal, RanksOk a → ∀ W, Rt (t_worths_of K) (envOf ["sheet", "found", "rank", "points"] [dSheet K a]) W (rD (dNs (worthsL a))) := fun x ⟨h1, h2⟩ W => by
  refine rt_seq (nx_setO (ds := (List.replicate 14 0).map dN) ((evO_lcm (List.range 14) dN (fun _ => dN 0) (fun i G => G.set 2 (some (.pl (dN i)))) [2] (ei_rangeM ev_c (by decide)) (fun _ _ => tg_name) (fun _ _ => ev_c) (fun j h => h) (by decide)).to rfl)) ?_
  refine rt_seq (nx_forM x.rankValues (fun y => dT K [dN y.1, dN y.2]) (fun i => [some (.pl (dSheet K x)), some (.ow (ownL W (((x.rankValues.take i).foldl (fun a y => a.set y.1 y.2) (List.replicate 14 0)).map dN))), none, none])
    (fun y G => (G.set 2 (some (.pl (dN y.1)))).set 3 (some (.pl (dN y.2)))) [2, 3] (ei_list (evs C ev_var fn_Sheet_worths rfl)) (fun _ _ => tg_tup (tgs_cons tg_name (tgs_cons tg_name tgs_nil))) fun i y hy => ⟨_, nx_setItem (i := 1) (j := y.1) (ds := ((x.rankValues.take i).foldl (fun a y => a.set y.1 y.2) (List.replicate 14 0)).map dN) rfl rfl ev_var ev_var ?_, ?_⟩) ?_
  · rw [List.length_map, fold_len, List.length_replicate]
    have := h1 y (List.mem_of_getElem? hy)
    omega
  · rw [take_get hy, List.foldl_append, List.foldl_cons, List.foldl_nil, List.map_set]
    rfl
  · rw [List.take_length, worths_fold h2 h1]
    exact rt_frzV rfl
theorem ok_worths_of {P : Program} {w : World} {K : PySem.W.Frag} {mg : Str → Option Value} {base : Heap} (C : Ctx K mg) : Ok P w K mg base 1 "worths_of" ["sheet"] (sp_worths_of K) :=
  ok_gen C 20 rfl rfl sc_worths_of fg_worths_of (fun _ _ _ _ _ _ hr o => dv_worths_of o (fun _ => rfl)) (fun _ _ _ _ _ _ us hl => match us, hl with | [_], _ => rfl) (len_of fun _ => rfl) fun _ _ _ _ h => reads_of (ev_worths_of C) h
def sp_Deal (K : PySem.W.Frag) : Sp := spMk (He.ga K "Deal") (fun a : Deal => RanksOk a ∧ a.seats.length ≤ 4) (fun a => [dSheet K a]) (fDeal K)
/-! Deal.__init__ -/
def N_Deal : List Str := ["self", "sheet", "hand"]
theorem sc_Deal : FnScope ["self", "sheet", "hand"] ["self", "sheet"] (defScope s_Deal) := ⟨rfl, rfl, rfl, by decide +kernel, rfl, by decide +kernel, by decide +kernel⟩
theorem nm_Deal : nmB ["self", "sheet", "hand"] (defScope s_Deal) [0, 1] [] ["NOT_GIVEN", "worths_of", "list"] = true := by decide +kernel
def t_Deal (K : PySem.W.Frag) : TS := tSeq (sFld K (tVar 0) (tVar 1) "sheet") (tSeq (sFld K (tVar 0) (tFld K (tVar 1) "trump") "trump") (tSeq (sFld K (tVar 0) (tFld K (tVar 1) "is_ruff") "is_ruff") (tSeq (sFld K (tVar 0) (tIf (tTest (tOp rEq (tFld K (tVar 1) "trick") (tC (.int (-1))))) (tC (.int 1)) (tFld K (tVar 1) "trick")) "trick_points") (tSeq (sFld K (tVar 0) (tIf (tTest (tOp rEq (tFld K (tVar 1) "last") (tC (.int (-1))))) (tC (.int 0)) (tFld K (tVar 1) "last")) "last_points") (tSeq (sFld K (tVar 0) (tIf (tTest (tOp rEq (tFld K (tVar 1) "lead") (tC (.int (-1))))) (tC (.int 0)) (tFld K (tVar 1) "lead")) "lead") (tSeq (sFld K (tVar 0) (tCall (sp_worths_of K) [] E0 (tCons (tVar 1) (tNil))) "worths") (tSeq (sFld K (tVar 0) (tCB (cList K) (tCons (tFld K (tVar 1) "sides") (tNil))) "sides") (sFld K (tVar 0) (tLc (iList K (tFld K (tVar 1) "hands")) (gName 2) (tYes) (tCB (cList K) (tCons (tVar 2) (tNil))) [2]) "hands"))))))))
theorem dv_Deal {X : Cx} (o0 : On fa X ["self", "sheet", "hand"] (defScope s_Deal)) (hf : ∀ x, X.fn x = true) (c_worths_of : Cal X "worths_of" (sp_worths_of X.K)) : PSs X (defBody s_Deal) (t_Deal X.K) := by
  have n0 := nm_Deal
  exact pss_cons (ps_fld (av o0 n0 0 (gm 0 rfl) rfl) (av o0 n0 1 (gm 1 rfl) rfl) rfl) (pss_cons (ps_fld (av o0 n0 0 (gm 0 rfl) rfl) (pe_fld (av o0 n0 1 (gm 1 rfl) rfl) rfl) rfl) (pss_cons (ps_fld (av o0 n0 0 (gm 0 rfl) rfl) (pe_fld (av o0 n0 1 (gm 1 rfl) rfl) rfl) rfl) (pss_cons (ps_fld (av o0 n0 0 (gm 0 rfl) rfl) (pe_ifExp (pt_cmpR op_eq (pe_fld (av o0 n0 1 (gm 1 rfl) rfl) rfl) (agi o0 n0 (gm 0 rfl) f_NOT_GIVEN) (nomark _)) (pe_int) (pe_fld (av o0 n0 1 (gm 1 rfl) rfl) rfl)) rfl) (pss_cons (ps_fld (av o0 n0 0 (gm 0 rfl) rfl) (pe_ifExp (pt_cmpR op_eq (pe_fld (av o0 n0 1 (gm 1 rfl) rfl) rfl) (agi o0 n0 (gm 0 rfl) f_NOT_GIVEN) (nomark _)) (pe_int) (pe_fld (av o0 n0 1 (gm 1 rfl) rfl) rfl)) rfl) (pss_cons (ps_fld (av o0 n0 0 (gm 0 rfl) rfl) (pe_ifExp (pt_cmpR op_eq (pe_fld (av o0 n0 1 (gm 1 rfl) rfl) rfl) (agi o0 n0 (gm 0 rfl) f_NOT_GIVEN) (nomark _)) (pe_int) (pe_fld (av o0 n0 1 (gm 1 rfl) rfl) rfl)) rfl) (pss_cons (ps_fld (av o0 n0 0 (gm 0 rfl) rfl) (acall o0 n0 c_worths_of (pa_cons (av o0 n0 1 (gm 1 rfl) rfl) (pa_nil)) (gm 1 rfl)) rfl) (pss_cons (ps_fld (av o0 n0 0 (gm 0 rfl) rfl) (act o0 n0 call_list_of (by decide +kernel) (pa_cons (pe_fld (av o0 n0 1 (gm 1 rfl) rfl) rfl) (pa_nil)) (gm 2 rfl) f_list) rfl) (pss_one (ps_fld (av o0 n0 0 (gm 0 rfl) rfl) (pe_lc (own := [("hand", 2)]) o0.calm o0.nd (pi_list (pe_fld (av o0 n0 1 (gm 1 rfl) rfl) rfl)) (o0.ok (own := [("hand", 2)]) (by decide +kernel)) (fun s1 H1 C1 l1 p1 => let o1 := o0.blk s1 H1 _ C1 l1 p1; agb o1 2 rfl (by decide +kernel)) (fun _ _ _ _ _ => pts_nil) (fun s1 H1 C1 l1 p1 => (fun (n1 : nmB _ (relS _ _) [2] [] ["list"] = true) => let o1 := o0.blk s1 H1 _ C1 l1 p1; act o1 n1 call_list_of (by decide +kernel) (pa_cons (av o1 n1 2 (gm 0 rfl) rfl) (pa_nil)) (gm 0 rfl) f_list) (by decide +kernel))) rfl)))))))))
theorem ev_optN {G : En} {W : Wd} {te : TE} {o : Option Nat} {n : Nat} (h : Ev te G W (dI (optI o))) : Ev (tIf (tTest (tOp rEq te (tC (.int (-1))))) (tC (.int (n : Int))) te) G W (dN (o.getD n)) := by
  refine ev_if (et_test (ev_eqI h ev_c)) (fun e => ?_) fun e => ?_
  · cases o with
    | none => exact ev_c
    | some k =>
      rw [decide_eq_true_eq] at e
      have e : (k : Int) = -1 := e
      omega
  · cases o with
    | none => cases e
    | some k => exact h
theorem ev_Deal (C : Ctx K mg) : ∀ a : Deal, (RanksOk a ∧ a.seats.length ≤ 4) → ∀ W0 x, ∃ G', Nx (t_Deal K) (envM ["self", "sheet", "hand"] W0 (He.ga K "Deal") x [dSheet K a]) W0 (some (.ow (ownI W0 (He.ga K "Deal") x (fDeal K a))) :: G') := fun p ⟨hp, hl⟩ W0 x => by
  refine ⟨(envM ["self", "sheet", "hand"] W0 (He.ga K "Deal") x [dSheet K p]).tail, ?_⟩
  refine nx_seq (nx_new (i := 0) [] rfl rfl ev_var (C.cls fc_Deal) (C.noat fn_Deal_sheet) rfl rfl) ?_
  refine nx_seq (nx_new (i := 0) ["sheet"] rfl rfl (evs C ev_var fn_Sheet_trump rfl) (C.cls fc_Deal) (C.noat fn_Deal_trump) rfl (by decide +kernel)) ?_
  refine nx_seq (nx_new (i := 0) ["sheet", "trump"] rfl rfl (evs C ev_var fn_Sheet_is_ruff rfl) (C.cls fc_Deal) (C.noat fn_Deal_is_ruff) rfl (by decide +kernel)) ?_
  refine nx_seq (nx_new (i := 0) ["sheet", "trump", "is_ruff"] rfl rfl (ev_optN (n := 1) (evs C ev_var fn_Sheet_trick rfl)) (C.cls fc_Deal) (C.noat fn_Deal_trick_points) rfl (by decide +kernel)) ?_
  refine nx_seq (nx_new (i := 0) ["sheet", "trump", "is_ruff", "trick_points"] rfl rfl (ev_optN (n := 0) (evs C ev_var fn_Sheet_last rfl)) (C.cls fc_Deal) (C.noat fn_Deal_last_points) rfl (by decide +kernel)) ?_
  refine nx_seq (nx_new (i := 0) ["sheet", "trump", "is_ruff", "trick_points", "last_points"] rfl rfl (ev_optN (n := 0) (evs C ev_var fn_Sheet_lead rfl)) (C.cls fc_Deal) (C.noat fn_Deal_lead) rfl (by decide +kernel)) ?_
  refine nx_seq (nx_new (i := 0) ["sheet", "trump", "is_ruff", "trick_points", "last_points", "lead"] rfl rfl (ev_call p hp (ea_cons ev_var ea_nil)) (C.cls fc_Deal) (C.noat fn_Deal_worths) rfl (by decide +kernel)) ?_
  refine nx_seq (nx_new (i := 0) ["sheet", "trump", "is_ruff", "trick_points", "last_points", "lead", "worths"] rfl rfl (EvO.ev (evO_list rfl (evs C ev_var fn_Sheet_sides rfl))) (C.cls fc_Deal) (C.noat fn_Deal_sides) rfl (by decide +kernel)) ?_
  exact nx_to (nx_new (i := 0) (d := dL (p.seats.map fun s => dNs s.cards)) ["sheet", "trump", "is_ruff", "trick_points", "last_points", "lead", "worths", "sides"] rfl rfl (EvO.ev (evO_lcm p.seats (fun s => dNs s.cards) (fun s => dNs s.cards) (fun s G => G.set 2 (some (.pl (dNs s.cards)))) [2] (ei_list (evs C ev_var fn_Sheet_hands rfl)) (fun _ _ => tg_name) (fun _ _ => EvO.ev (evO_list rfl ev_var)) (fun j h => h) (szl (by omega)))) (C.cls fc_Deal) (C.noat fn_Deal_hands) rfl (by decide +kernel)) rfl
theorem okM_Deal {P : Program} {w : World} {K : PySem.W.Frag} {mg : Str → Option Value} {base : Heap} (C : Ctx K mg) : OkM P w K mg base 2 "Deal" ["self", "sheet"] (sp_Deal K) :=
  okM_gen C 95 rfl rfl sc_Deal fg_Deal fm_Deal (fun _ _ _ _ _ _ hr o => dv_Deal o (fun _ => rfl) ((ok_worths_of C).cal hr (by decide))) (fun _ _ _ _ _ _ us hl => match us, hl with | [_, _], _ => rfl) (len_mk fun _ => rfl) fun _ _ _ _ h => reads_mk (ev_Deal C) h
def sp_total_of (K : PySem.W.Frag) : Sp := spOf (fun a : Deal => DealOk a) (fun a => [dDeal K a]) (fun a => dN (totalOf a))
/-! total_of -/
def N_total_of : List Str := ["deal", "cards", "hand", "card"]
theorem sc_total_of : FnScope ["deal", "cards", "hand", "card"] ["deal"] (defScope s_total_of) := ⟨rfl, rfl, rfl, by decide +kernel, rfl, by decide +kernel, by decide +kernel⟩
theorem nm_total_of : nmB ["deal", "cards", "hand", "card"] (defScope s_total_of) [0, 1] [1] ["sum", "len"] = true := by decide +kernel
def t_total_of (K : PySem.W.Frag) : TS := tSeq (tAsg (tCB (rSum K) (tCons (tLc (iList K (tFld K (tVar 0) "hands")) (gName 2) (tYes) (tCB (rSum K) (tCons (tLc (iList K (tVar 2)) (gName 3) (tYes) (tCall (sp_worth K) [] E0 (tCons (tVar 0) (tCons (tVar 3) (tNil)))) [3]) (tNil))) [2]) (tNil))) (gName 1)) (tRet (tOp oAdd (tOp oAdd (tOp oMul (tFld K (tVar 0) "trick_points") (tCB (cLen K) (tCons (tOp (rIxL K) (tFld K (tVar 0) "hands") (tC (.int 0))) (tNil)))) (tFld K (tVar 0) "last_points")) (tVar 1)))
theorem dv_total_of {X : Cx} (o0 : On fa X ["deal", "cards", "hand", "card"] (defScope s_total_of)) (hf : ∀ x, X.fn x = true) (c_worth : Cal X "worth" (sp_worth X.K)) : PSs X (defBody s_total_of) (t_total_of X.K) := by
  have n0 := nm_total_of
  exact pss_cons (aset o0 n0 hf 1 (acb o0 n0 (cr_sum o0.calm) (by decide +kernel) (pa_cons (pe_lc (own := [("hand", 2)]) o0.calm o0.nd (pi_list (pe_fld (av o0 n0 0 (gm 0 rfl) rfl) rfl)) (o0.ok (own := [("hand", 2)]) (by decide +kernel)) (fun s1 H1 C1 l1 p1 => let o1 := o0.blk s1 H1 _ C1 l1 p1; agb o1 2 rfl (by decide +kernel)) (fun _ _ _ _ _ => pts_nil) (fun s1 H1 C1 l1 p1 => (fun (n1 : nmB _ (relS _ _) [2] [] ["sum"] = true) => let o1 := o0.blk s1 H1 _ C1 l1 p1; acb o1 n1 (cr_sum o1.calm) (by decide +kernel) (pa_cons (pe_lc (own := [("card", 3)]) o1.calm o1.nd (pi_list (av o1 n1 2 (gm 0 rfl) rfl)) (o1.ok (own := [("card", 3)]) (by decide +kernel)) (fun s2 H2 C2 l2 p2 => let o2 := o1.blk s2 H2 _ C2 l2 p2; agb o2 3 rfl (by decide +kernel)) (fun _ _ _ _ _ => pts_nil) (fun s2 H2 C2 l2 p2 => (fun (n2 : nmB _ (relS _ _) [0, 3] [] ["worth"] = true) => let o2 := o1.blk s2 H2 _ C2 l2 p2; acall o2 n2 c_worth.blk.blk (pa_cons (av o2 n2 0 (gm 0 rfl) rfl) (pa_cons (av o2 n2 3 (gm 1 rfl) rfl) (pa_nil))) (gm 0 rfl)) (by decide +kernel))) (pa_nil)) (gm 0 rfl) f_sum) (by decide +kernel))) (pa_nil)) (gm 0 rfl) f_sum) (gm 0 rfl) rfl) (pss_one (ps_ret (pe_op op_add (pe_op op_add (pe_op op_mul (pe_fld (av o0 n0 0 (gm 0 rfl) rfl) rfl) (acb o0 n0 call_len_seq (by decide +kernel) (pa_cons (pe_ix ix_list (pe_fld (av o0 n0 0 (gm 0 rfl) rfl) rfl) (pe_int) (fun _ _ => rfl)) (pa_nil)) (gm 1 rfl) f_len)) (pe_fld (av o0 n0 0 (gm 0 rfl) rfl) rfl)) (av o0 n0 1 (gm 1 rfl) rfl))))
theorem ev_total_of (C : Ctx K mg) : ∀ a : Deal, DealOk a → ∀ W, Rt (t_total_of K) (envOf ["deal", "cards", "hand", "card"] [dDeal K a]) W (rD (dN (totalOf a))) := fun x o W => by
  have hn := o.n4
  have hn2 := o.n2
  have hm := o.most
  have hseat : ∀ s ∈ x.seats, s.cards.length ≤ 4 := fun s hs => by have := o.len s hs; omega
  refine rt_seq (nx_set (d := dN (valSum x (Vbndao.allCards x))) ((ev_sumN (l := (x.seats.map fun s => s.cards).map fun h => (h.map (Vbndao.cardValue x)).sum) ((EvO.ev (evO_lcm (x.seats.map fun s => s.cards) dNs (fun h => dN (h.map (Vbndao.cardValue x)).sum) (fun h G => G.set 2 (some (.pl (dNs h)))) [2] (ei_list ((evd C ev_var fn_Deal_hands rfl).to (by show _ = dL (List.map _ (List.map _ _)); rw [List.map_map]; rfl))) (fun _ _ => tg_name)
    (fun h hh => ev_sumN ((EvO.ev (evO_lcm h dN (fun c => dN (Vbndao.cardValue x c)) (fun c G => G.set 3 (some (.pl (dN c)))) [3] (ei_list ev_var) (fun _ _ => tg_name) (fun c hc => ev_call (x, c) ((good_hands o hh).2 c hc).2.1 (ea_cons ev_var (ea_cons ev_var ea_nil))) (fun j h => h) (szl (by have := (good_hands o hh).1; omega)))).to (by show _ = dL ((h.map _).map dN); rw [List.map_map]; rfl))) (fun j h => h) (szl (by rw [List.length_map]; omega)))).to (by show _ = dL (List.map dN (List.map _ _)); simp only [List.map_map]; rfl))).to (by rw [total_sum]))) ?_
  obtain ⟨s0, r, es⟩ : ∃ s r, x.seats = s :: r := by
    cases e : x.seats with
    | nil => rw [e] at hn2; simp at hn2
    | cons s r => exact ⟨s, r, rfl⟩
  have hz : sizeOfDeal x = s0.cards.length := by unfold sizeOfDeal; rw [es]; rfl
  have h0 : (x.seats.map fun s => dNs s.cards)[0]? = some (dNs s0.cards) := by rw [es]; rfl
  refine rt_ret ((ev_addN (ev_addN (m := Vbndao.trickValueOf x * sizeOfDeal x) ((ev_I (C := CMul) (evd C ev_var fn_Deal_trick_points rfl) (ev_lenM (ev_ixL (j := 0) (evd C ev_var fn_Deal_hands rfl) ev_c h0)) (.inr ?_)).to ?_) (evd C ev_var fn_Deal_last_points rfl)) ev_var).to rfl)
  · rw [hz] at hm
    exact ⟨by omega, by have : s0.cards.length ≤ 4 := hm.1; omega⟩
  · rw [hz]
    exact congrArg dI (Int.natCast_mul _ _).symm
theorem ok_total_of {P : Program} {w : World} {K : PySem.W.Frag} {mg : Str → Option Value} {base : Heap} (C : Ctx K mg) : Ok P w K mg base 2 "total_of" ["deal"] (sp_total_of K) :=
  ok_gen C 22 rfl rfl sc_total_of fg_total_of (fun _ _ _ _ _ _ hr o => dv_total_of o (fun _ => rfl) ((ok_worth C).cal hr (by decide))) (fun _ _ _ _ _ _ us hl => match us, hl with | [_], _ => rfl) (len_of fun _ => rfl) fun _ _ _ _ h => reads_of (ev_total_of C) h
end
end Fd

namespace Fd
open PySem PySem.Spec PyProof.Rows L2
open Vbndao (Deal Position)
section
variable {P : Program} {w : World} {K : PySem.W.Frag} {mg : Str → Option Value} {base : Heap}
/-- no call is ever made -/
def spNo : Sp := fun _ _ _ _ => False
theorem ok_void (C : Ctx K mg) {x : Str} {N ps : List Str} (k : Nat) {st : Stmt} {d : He.DefD} (i : Nat) (hi : fn[i]? = some d) (hd : d = ⟨(x, none), x, x, defArgs st, defBody st, defScope st, [], []⟩) (S : FnScope N ps (defScope st)) (hg : He.Fa.glo x ∈ fa)
    (hb : ∀ (kV doc pm : Value) (an : Option Addr) (cdv ct : Value) (us : List Value), us.length = ps.length → bindArgs (PySem.W.fnOf x x (defArgs st) (defBody st) (defScope st) .none kV doc pm an cdv ct) ⟨us, []⟩ = pure (ps.zip us)) : Ok P w K mg base (k + 1) x ps spNo := by
  subst hd
  obtain ⟨fd, F⟩ := C.says.def_ i hi
  exact ⟨fd, F.ok S (fun _ _ _ _ h => h.elim) fun _ _ _ _ _ _ _ _ _ h => h.elim, FunD.bindsN F hb, F.kp, C.gb.glo hg⟩
def sp_best_of (K : PySem.W.Frag) : Sp := spOf (fun a : Nat × List Nat => a.2 ≠ []) (fun a => [dN a.1, dNs a.2]) (fun a => dN (pick a.1 a.2))
/-! best_of -/
def N_best_of : List Str := ["side", "values"]
theorem sc_best_of : FnScope ["side", "values"] ["side", "values"] (defScope s_best_of) := ⟨rfl, rfl, rfl, by decide +kernel, rfl, by decide +kernel, by decide +kernel⟩
theorem nm_best_of : nmB ["side", "values"] (defScope s_best_of) [0, 1] [] ["max", "min"] = true := by decide +kernel
def t_best_of (K : PySem.W.Frag) : TS := tRet (tIf (tTest (tOp rEq (tVar 0) (tC (.int 0)))) (tCB (rMax K) (tCons (tVar 1) (tNil))) (tCB (rMin K) (tCons (tVar 1) (tNil))))
theorem dv_best_of {X : Cx} (o0 : On fa X ["side", "values"] (defScope s_best_of)) (hf : ∀ x, X.fn x = true) : PSs X (defBody s_best_of) (t_best_of X.K) := by
  have n0 := nm_best_of
  exact pss_one (ps_ret (pe_ifExp (pt_cmpR op_eq (av o0 n0 0 (gm 0 rfl) rfl) (pe_int) (nomark _)) (acb o0 n0 (cr_max o0.calm) (by decide +kernel) (pa_cons (av o0 n0 1 (gm 1 rfl) rfl) (pa_nil)) (gm 0 rfl) f_max) (acb o0 n0 (cr_min o0.calm) (by decide +kernel) (pa_cons (av o0 n0 1 (gm 1 rfl) rfl) (pa_nil)) (gm 1 rfl) f_min)))
theorem ev_best_of (C : Ctx K mg) : ∀ a : Nat × List Nat, a.2 ≠ [] → ∀ W, Rt (t_best_of K) (envOf ["side", "values"] [dN a.1, dNs a.2]) W (rD (dN (pick a.1 a.2))) := fun ⟨s, l⟩ h W => by
  dsimp only at h ⊢
  obtain ⟨b1, b2⟩ := pick_best (side := s) h
  have m1 : ((pick s l : Nat) : Int) ∈ l.map fun (n : Nat) => (n : Int) := List.mem_map.mpr ⟨_, b1, rfl⟩
  refine rt_ret (ev_if (b := decide (s = 0)) ((et_test (ev_eqI ev_var ev_c)).to (decide_eq_decide.mpr (by omega))) (fun e => ?_) fun e => ?_)
  · rw [decide_eq_true_eq] at e
    refine ev_max (ns := l.map fun (n : Nat) => (n : Int)) (by rw [ints_nat]; exact ev_var) m1 fun y hy => ?_
    obtain ⟨z, hz, rfl⟩ := List.mem_map.mp hy
    have := b2 z hz
    rw [if_pos e] at this
    omega
  · rw [decide_eq_false_iff_not] at e
    refine ev_min (ns := l.map fun (n : Nat) => (n : Int)) (by rw [ints_nat]; exact ev_var) m1 fun y hy => ?_
    obtain ⟨z, hz, rfl⟩ := List.mem_map.mp hy
    have := b2 z hz
    rw [if_neg e] at this
    omega
theorem ok_best_of {P : Program} {w : World} {K : PySem.W.Frag} {mg : Str → Option Value} {base : Heap} (C : Ctx K mg) : Ok P w K mg base 1 "best_of" ["side", "values"] (sp_best_of K) :=
  ok_gen C 40 rfl rfl sc_best_of fg_best_of (fun _ _ _ _ _ _ hr o => dv_best_of o (fun _ => rfl)) (fun _ _ _ _ _ _ us hl => match us, hl with | [_, _], _ => rfl) (len_of fun _ => rfl) fun _ _ _ _ h => reads_of (ev_best_of C) h
def sp_guarN (K : PySem.W.Frag) (n : Nat) : Sp := spOf (fun a : Deal × Position => Good a.1 a.2 ∧ Vbndao.cardsToPlay a.2 ≤ n) (fun a => [dDeal K a.1, dPos K a.2]) (fun a => dN (guarP a.1 a.2))
def sp_valsN (K : PySem.W.Frag) (n : Nat) : Sp := spOf (fun a : Deal × Position => Good a.1 a.2 ∧ Vbndao.isOver a.2 = false ∧ Vbndao.cardsToPlay a.2 ≤ n) (fun a => [dDeal K a.1, dPos K a.2]) (fun a => dNs (valuesP a.1 a.2))
/-! guaranteed -/
def N_guaranteed : List Str := ["deal", "position"]
theorem sc_guaranteed : FnScope ["deal", "position"] ["deal", "position"] (defScope s_guaranteed) := ⟨rfl, rfl, rfl, by decide +kernel, rfl, by decide +kernel, by decide +kernel⟩
theorem nm_guaranteed : nmB ["deal", "position"] (defScope s_guaranteed) [1, 0] [] ["is_over", "side_to_move", "values_after", "best_of"] = true := by decide +kernel
def t_guaranteed (K : PySem.W.Frag) (q_values_after : Sp) : TS := tSeq (tIfS (tB (tCall (sp_is_over K) [] E0 (tCons (tVar 1) (tNil)))) (tRet (tOp (rIxT K) (tFld K (tVar 1) "points") (tC (.int 0)))) (tNext)) (tRet (tCall (sp_best_of K) [] E0 (tCons (tCall (sp_side_to_move K) [] E0 (tCons (tVar 0) (tCons (tVar 1) (tNil)))) (tCons (tCall q_values_after [] E0 (tCons (tVar 0) (tCons (tVar 1) (tNil)))) (tNil)))))
theorem dv_guaranteed {X : Cx} {q_values_after : Sp} (o0 : On fa X ["deal", "position"] (defScope s_guaranteed)) (hf : ∀ x, X.fn x = true) (c_is_over : Cal X "is_over" (sp_is_over X.K)) (c_side_to_move : Cal X "side_to_move" (sp_side_to_move X.K)) (c_values_after : Cal X "values_after" q_values_after) (c_best_of : Cal X "best_of" (sp_best_of X.K)) : PSs X (defBody s_guaranteed) (t_guaranteed X.K q_values_after) := by
  have n0 := nm_guaranteed
  exact pss_cons (ps_if (pt_val (acall o0 n0 c_is_over (pa_cons (av o0 n0 1 (gm 0 rfl) rfl) (pa_nil)) (gm 0 rfl))) (pss_one (ps_ret (pe_ix ix_tup (pe_fld (av o0 n0 1 (gm 0 rfl) rfl) rfl) (pe_int) (fun _ _ => rfl)))) (pss_nil)) (pss_one (ps_ret (acall o0 n0 c_best_of (pa_cons (acall o0 n0 c_side_to_move (pa_cons (av o0 n0 0 (gm 1 rfl) rfl) (pa_cons (av o0 n0 1 (gm 0 rfl) rfl) (pa_nil))) (gm 1 rfl)) (pa_cons (acall o0 n0 c_values_after (pa_cons (av o0 n0 0 (gm 1 rfl) rfl) (pa_cons (av o0 n0 1 (gm 0 rfl) rfl) (pa_nil))) (gm 2 rfl)) (pa_nil))) (gm 3 rfl))))
theorem ev_guaranteed (C : Ctx K mg) {q : Sp} {n : Nat} (hq : ∀ {G : En} {W : Wd} {t : TA} (a : Deal × Position), (Good a.1 a.2 ∧ Vbndao.isOver a.2 = false ∧ Vbndao.cardsToPlay a.2 ≤ n) → EvA t G W [dDeal K a.1, dPos K a.2] → Ev (tCall q [] E0 t) G W (dNs (valuesP a.1 a.2))) :
    ∀ a : Deal × Position, (Good a.1 a.2 ∧ Vbndao.cardsToPlay a.2 ≤ n) → ∀ W, Rt (t_guaranteed K q) (envOf ["deal", "position"] [dDeal K a.1, dPos K a.2]) W (rD (dN (guarP a.1 a.2))) := fun ⟨x, p⟩ ⟨g, hn⟩ W => by
  dsimp only at g hn ⊢
  have hl : p.hands.length ≤ 4 := by have := g.hands; have := g.n4; omega
  refine rt_ifR (et_B (ev_call p hl (ea_cons ev_var ea_nil))) (fun e => ?_) fun e => ?_
  · exact rt_ret ((ev_ixT (j := 0) (evp C ev_var fn_Position_points rfl) ev_c rfl).to (by rw [guar_over g e]))
  · refine rt_ret ((ev_call (sideTo x p, valuesP x p) (values_ne g e) (ea_cons (ev_call (x, p) g (ea_cons ev_var (ea_cons ev_var ea_nil))) (ea_cons (hq (x, p) ⟨g, e, hn⟩ (ea_cons ev_var (ea_cons ev_var ea_nil))) ea_nil))).to ?_)
    rw [guar_step g e]
/-! values_after -/
def N_values_after : List Str := ["deal", "position", "card"]
theorem sc_values_after : FnScope ["deal", "position", "card"] ["deal", "position"] (defScope s_values_after) := ⟨rfl, rfl, rfl, by decide +kernel, rfl, by decide +kernel, by decide +kernel⟩
theorem nm_values_after : nmB ["deal", "position", "card"] (defScope s_values_after) [0, 1] [] ["legal_cards"] = true := by decide +kernel
def t_values_after (K : PySem.W.Frag) (q_guaranteed : Sp) : TS := tRet (tLc (iList K (tCall (sp_legal_cards K) [] E0 (tCons (tVar 0) (tCons (tVar 1) (tNil))))) (gName 2) (tYes) (tCall q_guaranteed [] E0 (tCons (tVar 0) (tCons (tCall (sp_after K) [] E0 (tCons (tVar 0) (tCons (tVar 1) (tCons (tVar 2) (tNil))))) (tNil)))) [2])
theorem dv_values_after {X : Cx} {q_guaranteed : Sp} (o0 : On fa X ["deal", "position", "card"] (defScope s_values_after)) (hf : ∀ x, X.fn x = true) (c_legal_cards : Cal X "legal_cards" (sp_legal_cards X.K)) (c_after : Cal X "after" (sp_after X.K)) (c_guaranteed : Cal X "guaranteed" q_guaranteed) : PSs X (defBody s_values_after) (t_values_after X.K q_guaranteed) := by
  have n0 := nm_values_after
  exact pss_one (ps_ret (pe_lc (own := [("card", 2)]) o0.calm o0.nd (pi_list (acall o0 n0 c_legal_cards (pa_cons (av o0 n0 0 (gm 0 rfl) rfl) (pa_cons (av o0 n0 1 (gm 1 rfl) rfl) (pa_nil))) (gm 0 rfl))) (o0.ok (own := [("card", 2)]) (by decide +kernel)) (fun s1 H1 C1 l1 p1 => let o1 := o0.blk s1 H1 _ C1 l1 p1; agb o1 2 rfl (by decide +kernel)) (fun _ _ _ _ _ => pts_nil) (fun s1 H1 C1 l1 p1 => (fun (n1 : nmB _ (relS _ _) [0, 1, 2] [] ["after", "guaranteed"] = true) => let o1 := o0.blk s1 H1 _ C1 l1 p1; acall o1 n1 c_guaranteed.blk (pa_cons (av o1 n1 0 (gm 0 rfl) rfl) (pa_cons (acall o1 n1 c_after.blk (pa_cons (av o1 n1 0 (gm 0 rfl) rfl) (pa_cons (av o1 n1 1 (gm 1 rfl) rfl) (pa_cons (av o1 n1 2 (gm 2 rfl) rfl) (pa_nil)))) (gm 0 rfl)) (pa_nil))) (gm 1 rfl)) (by decide +kernel))))
theorem ev_values_after (C : Ctx K mg) (n : Nat) : ∀ a : Deal × Position, (Good a.1 a.2 ∧ Vbndao.cardsToPlay a.2 ≤ n + 1) → ∀ W, Rt (t_values_after K (sp_guarN K n)) (envOf ["deal", "position", "card"] [dDeal K a.1, dPos K a.2]) W (rD (dNs (valuesP a.1 a.2))) := fun ⟨x, p⟩ ⟨g, hn⟩ W => by
  dsimp only at g hn ⊢
  have h4 := legal_le g
  refine rt_frz (rt_retO ((evO_lcm (Vbndao.legalCards x p) dN (fun c => dN (guarP x (Vbndao.playCard x p c))) (fun c G => G.set 2 (some (.pl (dN c)))) [2] (ei_list (ev_call (x, p) g (ea_cons ev_var (ea_cons ev_var ea_nil)))) (fun _ _ => tg_name)
    (fun c hc => ev_call (x, Vbndao.playCard x p c) ⟨good_legal g hc, by have := left_legal g hc; show Vbndao.cardsToPlay (Vbndao.playCard x p c) ≤ n; omega⟩ (ea_cons ev_var (ea_cons (ev_call (x, p, c) ⟨g, hc⟩ (ea_cons ev_var (ea_cons ev_var (ea_cons ev_var ea_nil)))) ea_nil))) (fun j h => h) (szl (by omega))).to ?_))
  show _ = List.map dN (List.map _ _)
  rw [List.map_map]
  rfl
theorem ok_guarN (C : Ctx K mg) : ∀ n : Nat, Ok P w K mg base (4 + 2 * n + 2) "guaranteed" ["deal", "position"] (sp_guarN K n)
  | 0 => ok_gen C 41 rfl rfl sc_guaranteed fg_guaranteed (fun _ _ _ _ _ _ hr o => dv_guaranteed o (fun _ => rfl) ((ok_is_over C).cal hr (by decide)) ((ok_side_to_move C).cal hr (by decide)) ((ok_void (x := "values_after") C 4 42 rfl rfl sc_values_after fg_values_after (fun _ _ _ _ _ _ us hl => match us, hl with | [_, _], _ => rfl)).cal hr (by decide)) ((ok_best_of C).cal hr (by decide)))
      (fun _ _ _ _ _ _ us hl => match us, hl with | [_, _], _ => rfl) (len_of fun _ => rfl) fun _ _ _ _ h => reads_of (ev_guaranteed C fun a h => absurd (show Vbndao.cardsToPlay a.2 = 0 by have := h.2.2; omega) fun e => by have h2 := (left_over h.1).mpr e; rw [h.2.1] at h2; cases h2) h
  | n + 1 => ok_gen C 41 rfl rfl sc_guaranteed fg_guaranteed (fun _ _ _ _ _ _ hr o => dv_guaranteed o (fun _ => rfl) ((ok_is_over C).cal hr (by show _ ≤ 4 + 2 * (n + 1) + 1; omega)) ((ok_side_to_move C).cal hr (by show _ ≤ 4 + 2 * (n + 1) + 1; omega)) ((show Ok P w K mg base (4 + 2 * n + 2 + 1) "values_after" ["deal", "position"] (sp_valsN K (n + 1)) from
      ok_gen C 42 rfl rfl sc_values_after fg_values_after (fun _ _ _ _ _ _ hr o => dv_values_after o (fun _ => rfl) ((ok_legal_cards C).cal hr (by show _ ≤ 4 + 2 * n + 2; omega)) ((ok_after C).cal hr (by omega)) ((ok_guarN C n).cal hr (Nat.le_refl _)))
        (fun _ _ _ _ _ _ us hl => match us, hl with | [_, _], _ => rfl) (len_of fun _ => rfl) fun _ _ _ _ h => reads_of (fun a hp => ev_values_after C n a ⟨hp.1, hp.2.2⟩) h).cal hr (by omega)) ((ok_best_of C).cal hr (by show _ ≤ 4 + 2 * (n + 1) + 1; omega)))
      (fun _ _ _ _ _ _ us hl => match us, hl with | [_, _], _ => rfl) (len_of fun _ => rfl) fun _ _ _ _ h => reads_of (ev_guaranteed C fun a hp h => ev_call (pre := fun a : Deal × Position => Good a.1 a.2 ∧ Vbndao.isOver a.2 = false ∧ Vbndao.cardsToPlay a.2 ≤ n + 1) a hp h) h
def sp_guaranteed (K : PySem.W.Frag) : Sp := sp_guarN K 12
def sp_values_after (K : PySem.W.Frag) : Sp := spOf (fun a : Deal × Position => Good a.1 a.2) (fun a => [dDeal K a.1, dPos K a.2]) (fun a => dNs (valuesP a.1 a.2))
theorem ok_guaranteed (C : Ctx K mg) : Ok P w K mg base 30 "guaranteed" ["deal", "position"] (sp_guaranteed K) := ok_guarN C 12
theorem ok_values_after (C : Ctx K mg) : Ok P w K mg base 31 "values_after" ["deal", "position"] (sp_values_after K) :=
  ok_gen C 42 rfl rfl sc_values_after fg_values_after (fun _ _ _ _ _ _ hr o => dv_values_after o (fun _ => rfl) ((ok_legal_cards C).cal hr (by decide)) ((ok_after C).cal hr (by decide)) ((ok_guarN C 12).cal hr (by decide)))
    (fun _ _ _ _ _ _ us hl => match us, hl with | [_, _], _ => rfl) (len_of fun _ => rfl) fun _ _ _ _ h => reads_of (fun a hp => ev_values_after C 12 a ⟨hp, by have := left_le hp; omega⟩) h
theorem ev_vals {G : En} {W : Wd} {t : TA} {x : Deal} {p : Position} (g : Good x p) (h : EvA t G W [dDeal K x, dPos K p]) : Ev (tCall (sp_values_after K) [] E0 t) G W (dNs (valuesP x p)) := ev_call (x, p) g h
theorem ev_guar {G : En} {W : Wd} {t : TA} {x : Deal} {p : Position} (g : Good x p) (h : EvA t G W [dDeal K x, dPos K p]) : Ev (tCall (sp_guaranteed K) [] E0 t) G W (dN (guarP x p)) :=
  ev_call (pre := fun a : Deal × Position => Good a.1 a.2 ∧ Vbndao.cardsToPlay a.2 ≤ 12) (cod := fun a => dN (guarP a.1 a.2)) (x, p) ⟨g, left_le g⟩ h
/-- the first place of a number in a list of numbers -/
theorem ev_indexN {G : En} {W : Wd} {ta tb : TE} {l : List Nat} {m j : Nat} (ha : Ev ta G W (dNs l)) (hb : Ev tb G W (dN m)) (h : FirstAt l m j) : Ev (tBM K "list" (rIndex K) ta (tCons tb tNil)) G W (dN j) := by
  rw [← ints_nat] at ha
  obtain ⟨i1, i2⟩ := first_int h
  exact ev_index ha hb i1 i2
theorem get_dN {l : List Nat} {j c : Nat} (h : l[j]? = some c) : (l.map dN)[j]? = some (dN c) := by rw [List.getElem?_map, h]; rfl
def sp_best_card (K : PySem.W.Frag) : Sp := spOf (fun a : Deal × Position => Good a.1 a.2 ∧ Vbndao.isOver a.2 = false) (fun a => [dDeal K a.1, dPos K a.2]) (fun a => dN (bestC a.1 a.2))
/-! best_card -/
def N_best_card : List Str := ["deal", "position", "values"]
theorem sc_best_card : FnScope ["deal", "position", "values"] ["deal", "position"] (defScope s_best_card) := ⟨rfl, rfl, rfl, by decide +kernel, rfl, by decide +kernel, by decide +kernel⟩
theorem nm_best_card : nmB ["deal", "position", "values"] (defScope s_best_card) [0, 1, 2] [2] ["values_after", "legal_cards", "side_to_move", "best_of"] = true := by decide +kernel
def t_best_card (K : PySem.W.Frag) (q_values_after : Sp) : TS := tSeq (tAsg (tCall q_values_after [] E0 (tCons (tVar 0) (tCons (tVar 1) (tNil)))) (gName 2)) (tRet (tOp (rIxL K) (tCall (sp_legal_cards K) [] E0 (tCons (tVar 0) (tCons (tVar 1) (tNil)))) (tBM K "list" (rIndex K) (tVar 2) (tCons (tCall (sp_best_of K) [] E0 (tCons (tCall (sp_side_to_move K) [] E0 (tCons (tVar 0) (tCons (tVar 1) (tNil)))) (tCons (tVar 2) (tNil)))) (tNil)))))
theorem dv_best_card {X : Cx} {q_values_after : Sp} (o0 : On fa X ["deal", "position", "values"] (defScope s_best_card)) (hf : ∀ x, X.fn x = true) (c_values_after : Cal X "values_after" q_values_after) (c_legal_cards : Cal X "legal_cards" (sp_legal_cards X.K)) (c_side_to_move : Cal X "side_to_move" (sp_side_to_move X.K)) (c_best_of : Cal X "best_of" (sp_best_of X.K)) : PSs X (defBody s_best_card) (t_best_card X.K q_values_after) := by
  have n0 := nm_best_card
  exact pss_cons (aset o0 n0 hf 2 (acall o0 n0 c_values_after (pa_cons (av o0 n0 0 (gm 0 rfl) rfl) (pa_cons (av o0 n0 1 (gm 1 rfl) rfl) (pa_nil))) (gm 0 rfl)) (gm 0 rfl) rfl) (pss_one (ps_ret (pe_ix ix_list (acall o0 n0 c_legal_cards (pa_cons (av o0 n0 0 (gm 0 rfl) rfl) (pa_cons (av o0 n0 1 (gm 1 rfl) rfl) (pa_nil))) (gm 1 rfl)) (pe_bm PySem.F.plainAttrs_list PySem.F.slot_list_index PySem.F.type_list_index mt_index (av o0 n0 2 (gm 2 rfl) rfl) (pa_cons (acall o0 n0 c_best_of (pa_cons (acall o0 n0 c_side_to_move (pa_cons (av o0 n0 0 (gm 0 rfl) rfl) (pa_cons (av o0 n0 1 (gm 1 rfl) rfl) (pa_nil))) (gm 2 rfl)) (pa_cons (av o0 n0 2 (gm 2 rfl) rfl) (pa_nil))) (gm 3 rfl)) (pa_nil))) (fun _ _ => rfl))))
theorem ev_best_card (C : Ctx K mg) : ∀ a : Deal × Position, (Good a.1 a.2 ∧ Vbndao.isOver a.2 = false) → ∀ W, Rt (t_best_card K (sp_values_after K)) (envOf ["deal", "position", "values"] [dDeal K a.1, dPos K a.2]) W (rD (dN (bestC a.1 a.2))) := fun ⟨x, p⟩ ⟨g, ho⟩ W => by
  dsimp only at g ho ⊢
  obtain ⟨j, c, h1, h2, h3⟩ := best_move g ho
  have e : bestC x p = c := by unfold bestC; rw [h3]; rfl
  rw [e]
  refine rt_seq (nx_set (ev_vals g (ea_cons ev_var (ea_cons ev_var ea_nil)))) ?_
  refine rt_ret (ev_ixL (j := j) (ev_call (x, p) g (ea_cons ev_var (ea_cons ev_var ea_nil))) (ev_indexN ev_var (Ev.to (ev_call (sideTo x p, valuesP x p) (values_ne g ho) (ea_cons (ev_call (x, p) g (ea_cons ev_var (ea_cons ev_var ea_nil))) (ea_cons ev_var ea_nil))) ?_) h1) (get_dN h2))
  rw [guar_step g ho]
theorem ok_best_card {P : Program} {w : World} {K : PySem.W.Frag} {mg : Str → Option Value} {base : Heap} (C : Ctx K mg) : Ok P w K mg base 32 "best_card" ["deal", "position"] (sp_best_card K) :=
  ok_gen C 43 rfl rfl sc_best_card fg_best_card (fun _ _ _ _ _ _ hr o => dv_best_card o (fun _ => rfl) ((ok_values_after C).cal hr (by decide)) ((ok_legal_cards C).cal hr (by decide)) ((ok_side_to_move C).cal hr (by decide)) ((ok_best_of C).cal hr (by decide))) (fun _ _ _ _ _ _ us hl => match us, hl with | [_, _], _ => rfl) (len_of fun _ => rfl) fun _ _ _ _ h => reads_of (ev_best_card C) h
def bestL (x : Deal) (p : Position) : List Nat := (List.range (Vbndao.cardsToPlay p)).map fun i => bestC x (posB x i p)
def sp_best_line (K : PySem.W.Frag) : Sp := spOf (fun a : Deal × Position => Good a.1 a.2) (fun a => [dDeal K a.1, dPos K a.2]) (fun a => dNs (bestL a.1 a.2))
/-! best_line -/
def N_best_line : List Str := ["deal", "position", "here", "found", "turn", "card"]
theorem sc_best_line : FnScope ["deal", "position", "here", "found", "turn", "card"] ["deal", "position"] (defScope s_best_line) := ⟨rfl, rfl, rfl, by decide +kernel, rfl, by decide +kernel, by decide +kernel⟩
theorem nm_best_line : nmB ["deal", "position", "here", "found", "turn", "card"] (defScope s_best_line) [1, 0, 2, 3, 5] [2, 3, 4, 5] ["cards_left", "range", "best_card", "after"] = true := by decide +kernel
def t_best_line (K : PySem.W.Frag) : TS := tSeq (tPar 2 3 (tCons (tVar 1) (tCons (tLst (tNil)) (tNil)))) (tSeq (tFor (iRng1 (tCons (tCall (sp_cards_left K) [] E0 (tCons (tVar 1) (tNil))) (tNil))) (gName 4) (tSeq (tAsg (tCall (sp_best_card K) [] E0 (tCons (tVar 0) (tCons (tVar 2) (tNil)))) (gName 5)) (tSeq (tDrop (tBM K "list" rAppend (tVar 3) (tCons (tVar 5) (tNil)))) (tAsg (tCall (sp_after K) [] E0 (tCons (tVar 0) (tCons (tVar 2) (tCons (tVar 5) (tNil))))) (gName 2))))) (tRet (tVar 3)))
theorem dv_best_line {X : Cx} (o0 : On fa X ["deal", "position", "here", "found", "turn", "card"] (defScope s_best_line)) (hf : ∀ x, X.fn x = true) (c_cards_left : Cal X "cards_left" (sp_cards_left X.K)) (c_best_card : Cal X "best_card" (sp_best_card X.K)) (c_after : Cal X "after" (sp_after X.K)) : PSs X (defBody s_best_line) (t_best_line X.K) := by
  have n0 := nm_best_line
  exact pss_cons (apar o0 (i := 2) (j := 3) rfl rfl (by decide) (by decide +kernel) (by decide +kernel) (pa_cons (av o0 n0 1 (gm 0 rfl) rfl) (pa_cons (pe_lst (pa_nil)) (pa_nil))) (by rfl)) (pss_cons (ps_for o0.nev o0.calm (pi_range1 (o0.gl n0 (gm 1 rfl)) (o0.gb.free f_range) (pa_cons (acall o0 n0 c_cards_left (pa_cons (av o0 n0 1 (gm 0 rfl) rfl) (pa_nil)) (gm 0 rfl)) (pa_nil))) (ag o0 n0 hf 4 (gm 2 rfl) rfl) (pss_cons (aset o0 n0 hf 5 (acall o0 n0 c_best_card (pa_cons (av o0 n0 0 (gm 1 rfl) rfl) (pa_cons (av o0 n0 2 (gm 2 rfl) rfl) (pa_nil))) (gm 2 rfl)) (gm 3 rfl) rfl) (pss_cons (ps_expr (pe_bm PySem.F.plainAttrs_list PySem.F.slot_list_append PySem.F.type_list_append mt_append (av o0 n0 3 (gm 3 rfl) rfl) (pa_cons (av o0 n0 5 (gm 4 rfl) rfl) (pa_nil)))) (pss_one (aset o0 n0 hf 2 (acall o0 n0 c_after (pa_cons (av o0 n0 0 (gm 1 rfl) rfl) (pa_cons (av o0 n0 2 (gm 2 rfl) rfl) (pa_cons (av o0 n0 5 (gm 4 rfl) rfl) (pa_nil)))) (gm 3 rfl)) (gm 0 rfl) rfl))))) (pss_one (ps_ret (av o0 n0 3 (gm 3 rfl) rfl))))
theorem ev_left {G : En} {W : Wd} {te : TE} {x : Deal} {p : Position} (g : Good x p) (h : Ev te G W (dPos K p)) : Ev (tCall (sp_cards_left K) [] E0 (tCons te tNil)) G W (dN (Vbndao.cardsToPlay p)) := ev_call p (by have := g.hands; have := g.n4; omega) (ea_cons h ea_nil)
theorem left_small {x : Deal} {p : Position} (g : Good x p) : Vbndao.cardsToPlay p < 2 ^ 62 := Nat.lt_of_le_of_lt (left_le g) (by decide)
theorem range_map_succ {α : Type} {f : Nat → α} {i : Nat} : (List.range (i + 1)).map f = (List.range i).map f ++ [f i] := by rw [List.range_succ, List.map_append]; rfl
theorem rg_get {n i a : Nat} (h : (List.range n)[i]? = some a) : a = i ∧ i < n := by
  obtain ⟨h1, h2⟩ := List.getElem?_eq_some_iff.mp h
  rw [List.length_range] at h1
  rw [List.getElem_range] at h2
  exact ⟨h2.symm, h1⟩
theorem ev_best_line (C : Ctx K mg) : ∀ a : Deal × Position, Good a.1 a.2 → ∀ W, Rt (t_best_line K) (envOf ["deal", "position", "here", "found", "turn", "card"] [dDeal K a.1, dPos K a.2]) W (rD (dNs (bestL a.1 a.2))) := fun ⟨x, p⟩ g W => by
  dsimp only at g ⊢
  have hl := left_le g
  refine rt_seq (nx_parO ev_var (evO_lst ea_nil)) ?_
  refine rt_seq (nx_forK (List.range (Vbndao.cardsToPlay p)) dN (fun i => [some (.pl (dDeal K x)), some (.pl (dPos K p)), some (.pl (dPos K (posB x i p))), some (.ow (ownL W (((List.range i).map fun i => bestC x (posB x i p)).map dN))), none, none]) (fun c G => G.set 4 (some (.pl (dN c)))) [4] [4, 5]
    (ei_rangeM (ev_left g ev_var) (left_small g)) (fun _ _ => tg_name) fun i a ha => ?_) ?_
  · obtain ⟨rfl, hi⟩ := rg_get ha
    obtain ⟨g1, e1⟩ := posB_good a g (by omega)
    have ho : Vbndao.isOver (posB x a p) = false := over_of_left g1 (n := Vbndao.cardsToPlay p - a - 1) (by omega)
    refine ⟨_, nx_seq (nx_set (ev_call (x, posB x a p) ⟨g1, ho⟩ (ea_cons ev_var (ea_cons ev_var ea_nil)))) (nx_seq (nx_app (i := 3) rfl rfl ev_var (by rw [List.length_map, List.length_map, List.length_range]; exact szl (by omega))) (nx_set (ev_call (x, posB x a p, bestC x (posB x a p)) ⟨g1, best_legal g1 ho⟩ (ea_cons ev_var (ea_cons ev_var (ea_cons ev_var ea_nil)))))), ?_⟩
    rw [range_map_succ, List.map_append, posB_succ]
    rfl
  · rw [List.length_range]
    exact rt_frzV rfl
theorem ok_best_line {P : Program} {w : World} {K : PySem.W.Frag} {mg : Str → Option Value} {base : Heap} (C : Ctx K mg) : Ok P w K mg base 33 "best_line" ["deal", "position"] (sp_best_line K) :=
  ok_gen C 44 rfl rfl sc_best_line fg_best_line (fun _ _ _ _ _ _ hr o => dv_best_line o (fun _ => rfl) ((ok_cards_left C).cal hr (by decide)) ((ok_best_card C).cal hr (by decide)) ((ok_after C).cal hr (by decide))) (fun _ _ _ _ _ _ us hl => match us, hl with | [_, _], _ => rfl) (len_of fun _ => rfl) fun _ _ _ _ h => reads_of (ev_best_line C) h
def sp_contN (K : PySem.W.Frag) (n : Nat) : Sp := spOf (fun a : Deal × Position => Good a.1 a.2 ∧ Vbndao.cardsToPlay a.2 ≤ n) (fun a => [dDeal K a.1, dPos K a.2]) (fun a => dN (Vbndao.continuationCount a.1 (Vbndao.cardsToPlay a.2) a.2))
/-! continuations -/
def N_continuations : List Str := ["deal", "position", "card"]
theorem sc_continuations : FnScope ["deal", "position", "card"] ["deal", "position"] (defScope s_continuations) := ⟨rfl, rfl, rfl, by decide +kernel, rfl, by decide +kernel, by decide +kernel⟩
theorem nm_continuations : nmB ["deal", "position", "card"] (defScope s_continuations) [1, 0] [] ["is_over", "legal_cards", "sum"] = true := by decide +kernel
def t_continuations (K : PySem.W.Frag) (q_continuations : Sp) : TS := tSeq (tIfS (tB (tCall (sp_is_over K) [] E0 (tCons (tVar 1) (tNil)))) (tRet (tC (.int 1))) (tNext)) (tRet (tCB (rSum K) (tCons (tLc (iList K (tCall (sp_legal_cards K) [] E0 (tCons (tVar 0) (tCons (tVar 1) (tNil))))) (gName 2) (tYes) (tCall q_continuations [] E0 (tCons (tVar 0) (tCons (tCall (sp_after K) [] E0 (tCons (tVar 0) (tCons (tVar 1) (tCons (tVar 2) (tNil))))) (tNil)))) [2]) (tNil))))
theorem dv_continuations {X : Cx} {q_continuations : Sp} (o0 : On fa X ["deal", "position", "card"] (defScope s_continuations)) (hf : ∀ x, X.fn x = true) (c_is_over : Cal X "is_over" (sp_is_over X.K)) (c_legal_cards : Cal X "legal_cards" (sp_legal_cards X.K)) (c_after : Cal X "after" (sp_after X.K)) (c_continuations : Cal X "continuations" q_continuations) : PSs X (defBody s_continuations) (t_continuations X.K q_continuations) := by
  have n0 := nm_continuations
  exact pss_cons (ps_if (pt_val (acall o0 n0 c_is_over (pa_cons (av o0 n0 1 (gm 0 rfl) rfl) (pa_nil)) (gm 0 rfl))) (pss_one (ps_ret (pe_int))) (pss_nil)) (pss_one (ps_ret (acb o0 n0 (cr_sum o0.calm) (by decide +kernel) (pa_cons (pe_lc (own := [("card", 2)]) o0.calm o0.nd (pi_list (acall o0 n0 c_legal_cards (pa_cons (av o0 n0 0 (gm 1 rfl) rfl) (pa_cons (av o0 n0 1 (gm 0 rfl) rfl) (pa_nil))) (gm 1 rfl))) (o0.ok (own := [("card", 2)]) (by decide +kernel)) (fun s1 H1 C1 l1 p1 => let o1 := o0.blk s1 H1 _ C1 l1 p1; agb o1 2 rfl (by decide +kernel)) (fun _ _ _ _ _ => pts_nil) (fun s1 H1 C1 l1 p1 => (fun (n1 : nmB _ (relS _ _) [0, 1, 2] [] ["after", "continuations"] = true) => let o1 := o0.blk s1 H1 _ C1 l1 p1; acall o1 n1 c_continuations.blk (pa_cons (av o1 n1 0 (gm 0 rfl) rfl) (pa_cons (acall o1 n1 c_after.blk (pa_cons (av o1 n1 0 (gm 0 rfl) rfl) (pa_cons (av o1 n1 1 (gm 1 rfl) rfl) (pa_cons (av o1 n1 2 (gm 2 rfl) rfl) (pa_nil)))) (gm 0 rfl)) (pa_nil))) (gm 1 rfl)) (by decide +kernel))) (pa_nil)) (gm 2 rfl) f_sum)))
theorem ev_continuations (C : Ctx K mg) {q : Sp} {n : Nat} (hq : ∀ {G : En} {W : Wd} {t : TA} (a : Deal × Position), (Good a.1 a.2 ∧ Vbndao.cardsToPlay a.2 < n) → EvA t G W [dDeal K a.1, dPos K a.2] → Ev (tCall q [] E0 t) G W (dN (Vbndao.continuationCount a.1 (Vbndao.cardsToPlay a.2) a.2))) :
    ∀ a : Deal × Position, (Good a.1 a.2 ∧ Vbndao.cardsToPlay a.2 ≤ n) → ∀ W, Rt (t_continuations K q) (envOf ["deal", "position", "card"] [dDeal K a.1, dPos K a.2]) W (rD (dN (Vbndao.continuationCount a.1 (Vbndao.cardsToPlay a.2) a.2))) := fun ⟨x, p⟩ ⟨g, hn⟩ W => by
  dsimp only at g hn ⊢
  have hl : p.hands.length ≤ 4 := by have := g.hands; have := g.n4; omega
  have h4 := legal_le g
  refine rt_ifR (et_B (ev_call p hl (ea_cons ev_var ea_nil))) (fun e => ?_) fun e => ?_
  · exact rt_ret (ev_c.to (by rw [cont_over g e]; rfl))
  · have hp := not_over_pos g e
    rw [cont_step g (n := Vbndao.cardsToPlay p - 1) (by omega)]
    refine rt_ret (ev_sumN ((EvO.ev (evO_lcm (Vbndao.legalCards x p) dN (fun c => dN (Vbndao.continuationCount x (Vbndao.cardsToPlay (Vbndao.playCard x p c)) (Vbndao.playCard x p c))) (fun c G => G.set 2 (some (.pl (dN c)))) [2] (ei_list (ev_call (x, p) g (ea_cons ev_var (ea_cons ev_var ea_nil)))) (fun _ _ => tg_name)
      (fun c hc => hq (x, Vbndao.playCard x p c) ⟨good_legal g hc, by have := left_legal g hc; show Vbndao.cardsToPlay (Vbndao.playCard x p c) < n; omega⟩ (ea_cons ev_var (ea_cons (ev_call (x, p, c) ⟨g, hc⟩ (ea_cons ev_var (ea_cons ev_var (ea_cons ev_var ea_nil)))) ea_nil))) (fun j h => h) (szl (by omega)))).to ?_))
    show _ = dL (List.map dN (List.map _ _))
    rw [List.map_map]
    rfl
theorem ok_contN (C : Ctx K mg) : ∀ n : Nat, Ok P w K mg base (4 + n + 2) "continuations" ["deal", "position"] (sp_contN K n)
  | 0 => ok_gen C 45 rfl rfl sc_continuations fg_continuations (fun _ _ _ _ _ _ hr o => dv_continuations o (fun _ => rfl) ((ok_is_over C).cal hr (by decide)) ((ok_legal_cards C).cal hr (by decide)) ((ok_after C).cal hr (by decide)) ((ok_void (x := "continuations") C 4 45 rfl rfl sc_continuations fg_continuations (fun _ _ _ _ _ _ us hl => match us, hl with | [_, _], _ => rfl)).cal hr (by decide)))
      (fun _ _ _ _ _ _ us hl => match us, hl with | [_, _], _ => rfl) (len_of fun _ => rfl) fun _ _ _ _ h => reads_of (ev_continuations C fun a h => absurd h.2 (Nat.not_lt_zero _)) h
  | n + 1 => ok_gen C 45 rfl rfl sc_continuations fg_continuations (fun _ _ _ _ _ _ hr o => dv_continuations o (fun _ => rfl) ((ok_is_over C).cal hr (by show _ ≤ 4 + (n + 1) + 1; omega)) ((ok_legal_cards C).cal hr (by show _ ≤ 4 + (n + 1) + 1; omega)) ((ok_after C).cal hr (by show _ ≤ 4 + (n + 1) + 1; omega)) ((ok_contN C n).cal hr (by omega)))
      (fun _ _ _ _ _ _ us hl => match us, hl with | [_, _], _ => rfl) (len_of fun _ => rfl) fun _ _ _ _ h => reads_of (ev_continuations C fun a hp h => ev_call (pre := fun a : Deal × Position => Good a.1 a.2 ∧ Vbndao.cardsToPlay a.2 ≤ n) (cod := fun a => dN (Vbndao.continuationCount a.1 (Vbndao.cardsToPlay a.2) a.2)) a ⟨hp.1, Nat.le_of_lt_succ hp.2⟩ h) h
def sp_continuations (K : PySem.W.Frag) : Sp := sp_contN K 12
theorem ok_continuations (C : Ctx K mg) : Ok P w K mg base 18 "continuations" ["deal", "position"] (sp_continuations K) := ok_contN C 12
theorem ev_cont {G : En} {W : Wd} {t : TA} {x : Deal} {p : Position} (g : Good x p) (h : EvA t G W [dDeal K x, dPos K p]) : Ev (tCall (sp_continuations K) [] E0 t) G W (dN (Vbndao.continuationCount x (Vbndao.cardsToPlay p) p)) :=
  ev_call (pre := fun a : Deal × Position => Good a.1 a.2 ∧ Vbndao.cardsToPlay a.2 ≤ 12) (cod := fun a => dN (Vbndao.continuationCount a.1 (Vbndao.cardsToPlay a.2) a.2)) (x, p) ⟨g, left_le g⟩ h
def ledAt (p : Position) (i : Nat) : Position := { hands := p.hands, trick := [], leader := i, scores := p.scores }
theorem good_lead {x : Deal} {p : Position} (g : Good x p) (ht : p.trick = []) {i : Nat} (hi : i < x.seats.length) : Good x (ledAt p i) := by
  obtain ⟨m, h1, h2, _, h4⟩ := g.sizes
  have hn := g.n2
  refine ⟨g.n2, g.n4, g.side, g.hands, hi, by show 0 < _; omega, fun c hc => g.card c (by rw [ht]; exact hc), by have := g.nd; rw [ht] at this; exact this, m, h1, h2, .inl rfl, fun k hk => ?_⟩
  have hj : (i + k) % x.seats.length < x.seats.length := Nat.mod_lt _ (by omega)
  obtain ⟨k', hk', e⟩ := rot_onto (a := p.leader) (j := (i + k) % x.seats.length) g.lead hj
  have := h4 k' hk'
  rw [ht, e] at this
  exact this
def sp_led_values (K : PySem.W.Frag) : Sp := spOwn (fun a : Deal × Position => Good a.1 a.2 ∧ a.2.trick = []) (fun a => [dDeal K a.1, dPos K a.2]) (fun a => ((List.range a.1.seats.length).map fun i => guarP a.1 (ledAt a.2 i)).map dN)
/-! led_values -/
def N_led_values : List Str := ["deal", "position", "found", "seat"]
theorem sc_led_values : FnScope ["deal", "position", "found", "seat"] ["deal", "position"] (defScope s_led_values) := ⟨rfl, rfl, rfl, by decide +kernel, rfl, by decide +kernel, by decide +kernel⟩
theorem nm_led_values : nmB ["deal", "position", "found", "seat"] (defScope s_led_values) [1, 2, 0, 3] [2, 3] ["len", "range", "Position", "guaranteed"] = true := by decide +kernel
def t_led_values (K : PySem.W.Frag) (q_guaranteed : Sp) : TS := tSeq (tAsg (tLst (tNil)) (gName 2)) (tSeq (tFor (iRng1 (tCons (tCB (cLen K) (tCons (tFld K (tVar 1) "hands") (tNil))) (tNil))) (gName 3) (tDrop (tBM K "list" rAppend (tVar 2) (tCons (tCall q_guaranteed [] E0 (tCons (tVar 0) (tCons (tMake (He.ga K "Position") (sp_Position K) [] E0 (tCons (tFld K (tVar 1) "hands") (tCons (tLst (tNil)) (tCons (tVar 3) (tCons (tFld K (tVar 1) "points") (tNil)))))) (tNil)))) (tNil))))) (tRet (tVar 2)))
theorem dv_led_values {X : Cx} {q_guaranteed : Sp} (o0 : On fa X ["deal", "position", "found", "seat"] (defScope s_led_values)) (hf : ∀ x, X.fn x = true) (c_Position : Mak X "Position" (He.ga X.K "Position") (sp_Position X.K)) (c_guaranteed : Cal X "guaranteed" q_guaranteed) : PSs X (defBody s_led_values) (t_led_values X.K q_guaranteed) := by
  have n0 := nm_led_values
  exact pss_cons (aset o0 n0 hf 2 (pe_lst (pa_nil)) (gm 0 rfl) rfl) (pss_cons (ps_for o0.nev o0.calm (pi_range1 (o0.gl n0 (gm 1 rfl)) (o0.gb.free f_range) (pa_cons (acb o0 n0 call_len_seq (by decide +kernel) (pa_cons (pe_fld (av o0 n0 1 (gm 0 rfl) rfl) rfl) (pa_nil)) (gm 0 rfl) f_len) (pa_nil))) (ag o0 n0 hf 3 (gm 1 rfl) rfl) (pss_one (ps_expr (pe_bm PySem.F.plainAttrs_list PySem.F.slot_list_append PySem.F.type_list_append mt_append (av o0 n0 2 (gm 1 rfl) rfl) (pa_cons (acall o0 n0 c_guaranteed (pa_cons (av o0 n0 0 (gm 2 rfl) rfl) (pa_cons (amake o0 n0 c_Position (pa_cons (pe_fld (av o0 n0 1 (gm 0 rfl) rfl) rfl) (pa_cons (pe_lst (pa_nil)) (pa_cons (av o0 n0 3 (gm 3 rfl) rfl) (pa_cons (pe_fld (av o0 n0 1 (gm 0 rfl) rfl) rfl) (pa_nil))))) (gm 2 rfl)) (pa_nil))) (gm 3 rfl)) (pa_nil)))))) (pss_one (ps_ret (av o0 n0 2 (gm 1 rfl) rfl))))
theorem ev_led_values (C : Ctx K mg) : ∀ a : Deal × Position, (Good a.1 a.2 ∧ a.2.trick = []) → ∀ W, Rt (t_led_values K (sp_guaranteed K)) (envOf ["deal", "position", "found", "seat"] [dDeal K a.1, dPos K a.2]) W (rO W (((List.range a.1.seats.length).map fun i => guarP a.1 (ledAt a.2 i)).map dN)) := fun ⟨x, p⟩ ⟨g, ht⟩ W => by
  dsimp only at g ht ⊢
  have hn := g.n4
  refine rt_seq (nx_setO (evO_lst ea_nil)) ?_
  refine rt_seq (nx_forK (List.range x.seats.length) dN (fun i => [some (.pl (dDeal K x)), some (.pl (dPos K p)), some (.ow (ownL W (((List.range i).map fun i => guarP x (ledAt p i)).map dN))), none]) (fun c G => G.set 3 (some (.pl (dN c)))) [3] [3]
    (ei_rangeM ((ev_lenM (evp C ev_var fn_Position_hands rfl)).to (by rw [g.hands])) (Nat.lt_of_le_of_lt hn (by decide))) (fun _ _ => tg_name) fun i a ha => ?_) ?_
  · obtain ⟨rfl, hi⟩ := rg_get ha
    refine ⟨_, nx_app (i := 2) rfl rfl (ev_guar (good_lead g ht hi) (ea_cons ev_var (ea_cons (ev_newPos (ledAt p a) (ea_cons (evp C (p := p) ev_var fn_Position_hands rfl) (ea_cons (EvO.ev (evO_lst ea_nil)) (ea_cons ev_var (ea_cons (evp C (p := p) ev_var fn_Position_points rfl) ea_nil))))) ea_nil))) (by rw [List.length_map, List.length_map, List.length_range]; exact szl (by omega)), ?_⟩
    rw [range_map_succ, List.map_append]
    rfl
  · rw [List.length_range]
    exact rt_retV rfl
theorem ok_led_values {P : Program} {w : World} {K : PySem.W.Frag} {mg : Str → Option Value} {base : Heap} (C : Ctx K mg) : Ok P w K mg base 31 "led_values" ["deal", "position"] (sp_led_values K) :=
  ok_gen C 46 rfl rfl sc_led_values fg_led_values (fun _ _ _ _ _ _ hr o => dv_led_values o (fun _ => rfl) ((okM_Position C).mak hr (by decide)) ((ok_guaranteed C).cal hr (by decide))) (fun _ _ _ _ _ _ us hl => match us, hl with | [_, _], _ => rfl) (len_own fun _ => rfl) fun _ _ _ _ h => reads_own (ev_led_values C) h
def sp_exchanged (K : PySem.W.Frag) : Sp := spOf (fun _ : Nat × Nat × Nat => True) (fun a => [dN a.1, dN a.2.1, dN a.2.2]) (fun a => dN (sw a.2.1 a.2.2 a.1))
/-! exchanged -/
def N_exchanged : List Str := ["card", "first", "second"]
theorem sc_exchanged : FnScope ["card", "first", "second"] ["card", "first", "second"] (defScope s_exchanged) := ⟨rfl, rfl, rfl, by decide +kernel, rfl, by decide +kernel, by decide +kernel⟩
theorem nm_exchanged : nmB ["card", "first", "second"] (defScope s_exchanged) [0, 1, 2] [] [] = true := by decide +kernel
def t_exchanged (K : PySem.W.Frag) : TS := tSeq (tIfS (tTest (tOp rEq (tVar 0) (tVar 1))) (tRet (tVar 2)) (tNext)) (tRet (tIf (tTest (tOp rEq (tVar 0) (tVar 2))) (tVar 1) (tVar 0)))
theorem dv_exchanged {X : Cx} (o0 : On fa X ["card", "first", "second"] (defScope s_exchanged)) (hf : ∀ x, X.fn x = true) : PSs X (defBody s_exchanged) (t_exchanged X.K) := by
  have n0 := nm_exchanged
  exact pss_cons (ps_if (pt_cmpR op_eq (av o0 n0 0 (gm 0 rfl) rfl) (av o0 n0 1 (gm 1 rfl) rfl) (nomark _)) (pss_one (ps_ret (av o0 n0 2 (gm 2 rfl) rfl))) (pss_nil)) (pss_one (ps_ret (pe_ifExp (pt_cmpR op_eq (av o0 n0 0 (gm 0 rfl) rfl) (av o0 n0 2 (gm 2 rfl) rfl) (nomark _)) (av o0 n0 1 (gm 1 rfl) rfl) (av o0 n0 0 (gm 0 rfl) rfl))))
theorem ev_exchanged (C : Ctx K mg) : ∀ a : Nat × Nat × Nat, True → ∀ W, Rt (t_exchanged K) (envOf ["card", "first", "second"] [dN a.1, dN a.2.1, dN a.2.2]) W (rD (dN (sw a.2.1 a.2.2 a.1))) := fun ⟨e, c, d⟩ _ W => by
  dsimp only
  unfold sw
  refine rt_ifR (b := decide (e = c)) ((et_test (ev_eqI ev_var ev_var)).to (decide_eq_decide.mpr (by omega))) (fun k => ?_) fun k => ?_
  · rw [if_pos (of_decide_eq_true k)]
    exact rt_ret ev_var
  · rw [if_neg (of_decide_eq_false k)]
    refine rt_ret (ev_if (b := decide (e = d)) ((et_test (ev_eqI ev_var ev_var)).to (decide_eq_decide.mpr (by omega))) (fun k2 => ?_) fun k2 => ?_)
    · rw [if_pos (of_decide_eq_true k2)]
      exact ev_var
    · rw [if_neg (of_decide_eq_false k2)]
      exact ev_var
theorem ok_exchanged {P : Program} {w : World} {K : PySem.W.Frag} {mg : Str → Option Value} {base : Heap} (C : Ctx K mg) : Ok P w K mg base 1 "exchanged" ["card", "first", "second"] (sp_exchanged K) :=
  ok_gen C 47 rfl rfl sc_exchanged fg_exchanged (fun _ _ _ _ _ _ hr o => dv_exchanged o (fun _ => rfl)) (fun _ _ _ _ _ _ us hl => match us, hl with | [_, _, _], _ => rfl) (len_of fun _ => rfl) fun _ _ _ _ h => reads_of (ev_exchanged C) h
def sp_exchanged_value (K : PySem.W.Frag) : Sp := spOf (fun a : Deal × Nat × Nat => DealOk a.1 ∧ a.2.1 ∈ Vbndao.allCards a.1 ∧ a.2.2 ∈ Vbndao.allCards a.1) (fun a => [dDeal K a.1, dN a.2.1, dN a.2.2]) (fun a => dN (guarP a.1 (Vbndao.initialPosition (Vbndao.exchangeCards a.1 a.2.1 a.2.2))))
/-! exchanged_value -/
def N_exchanged_value : List Str := ["deal", "first", "second", "hands", "hand", "card"]
theorem sc_exchanged_value : FnScope ["deal", "first", "second", "hands", "hand", "card"] ["deal", "first", "second"] (defScope s_exchanged_value) := ⟨rfl, rfl, rfl, by decide +kernel, rfl, by decide +kernel, by decide +kernel⟩
theorem nm_exchanged_value : nmB ["deal", "first", "second", "hands", "hand", "card"] (defScope s_exchanged_value) [0, 3] [3] ["beginning", "guaranteed"] = true := by decide +kernel
def t_exchanged_value (K : PySem.W.Frag) (q_guaranteed : Sp) : TS := tSeq (tAsg (tLc (iList K (tFld K (tVar 0) "hands")) (gName 4) (tYes) (tLc (iList K (tVar 4)) (gName 5) (tYes) (tCall (sp_exchanged K) [] E0 (tCons (tVar 5) (tCons (tVar 1) (tCons (tVar 2) (tNil))))) [5]) [4]) (gName 3)) (tRet (tCall q_guaranteed [] E0 (tCons (tVar 0) (tCons (tCall (sp_beginning K) [] E0 (tCons (tVar 0) (tCons (tVar 3) (tNil)))) (tNil)))))
theorem dv_exchanged_value {X : Cx} {q_guaranteed : Sp} (o0 : On fa X ["deal", "first", "second", "hands", "hand", "card"] (defScope s_exchanged_value)) (hf : ∀ x, X.fn x = true) (c_exchanged : Cal X "exchanged" (sp_exchanged X.K)) (c_beginning : Cal X "beginning" (sp_beginning X.K)) (c_guaranteed : Cal X "guaranteed" q_guaranteed) : PSs X (defBody s_exchanged_value) (t_exchanged_value X.K q_guaranteed) := by
  have n0 := nm_exchanged_value
  exact pss_cons (asetLc o0 sc_exchanged_value.kind (i := 3) (own := [("hand", 4)]) rfl (by decide +kernel) (by decide +kernel) (pi_list (pe_fld (av o0 n0 0 (gm 0 rfl) rfl) rfl)) (o0.ok (own := [("hand", 4)]) (by decide +kernel)) (fun s1 H1 C1 l1 p1 => let o1 := o0.blk s1 H1 _ C1 l1 p1; agb o1 4 rfl (by decide +kernel)) (fun _ _ _ _ _ => pts_nil) (fun s1 H1 C1 l1 p1 => (fun (n1 : nmB _ (relS _ _) [4] [] [] = true) => let o1 := o0.blk s1 H1 _ C1 l1 p1; pe_lc (own := [("card", 5)]) o1.calm o1.nd (pi_list (av o1 n1 4 (gm 0 rfl) rfl)) (o1.ok (own := [("card", 5)]) (by decide +kernel)) (fun s2 H2 C2 l2 p2 => let o2 := o1.blk s2 H2 _ C2 l2 p2; agb o2 5 rfl (by decide +kernel)) (fun _ _ _ _ _ => pts_nil) (fun s2 H2 C2 l2 p2 => (fun (n2 : nmB _ (relS _ _) [5, 1, 2] [] ["exchanged"] = true) => let o2 := o1.blk s2 H2 _ C2 l2 p2; acall o2 n2 c_exchanged.blk.blk (pa_cons (av o2 n2 5 (gm 0 rfl) rfl) (pa_cons (av o2 n2 1 (gm 1 rfl) rfl) (pa_cons (av o2 n2 2 (gm 2 rfl) rfl) (pa_nil)))) (gm 0 rfl)) (by decide +kernel))) (by decide +kernel))) (pss_one (ps_ret (acall o0 n0 c_guaranteed (pa_cons (av o0 n0 0 (gm 0 rfl) rfl) (pa_cons (acall o0 n0 c_beginning (pa_cons (av o0 n0 0 (gm 0 rfl) rfl) (pa_cons (av o0 n0 3 (gm 1 rfl) rfl) (pa_nil))) (gm 0 rfl)) (pa_nil))) (gm 1 rfl))))
theorem ev_exchanged_value (C : Ctx K mg) : ∀ a : Deal × Nat × Nat, (DealOk a.1 ∧ a.2.1 ∈ Vbndao.allCards a.1 ∧ a.2.2 ∈ Vbndao.allCards a.1) → ∀ W, Rt (t_exchanged_value K (sp_guaranteed K)) (envOf ["deal", "first", "second", "hands", "hand", "card"] [dDeal K a.1, dN a.2.1, dN a.2.2]) W (rD (dN (guarP a.1 (Vbndao.initialPosition (Vbndao.exchangeCards a.1 a.2.1 a.2.2))))) := fun ⟨x, c, d⟩ ⟨o, hc, hd⟩ W => by
  dsimp only at o hc hd ⊢
  have hn := o.n4
  refine rt_seq (nx_set (d := dL (((x.seats.map fun s => s.cards).map fun h => h.map (sw c d)).map dNs)) ((EvO.ev (evO_lcm (x.seats.map fun s => s.cards) dNs (fun h => dNs (h.map (sw c d))) (fun h G => G.set 4 (some (.pl (dNs h)))) [4] (ei_list ((evd C ev_var fn_Deal_hands rfl).to (by show _ = dL (List.map _ (List.map _ _)); rw [List.map_map]; rfl))) (fun _ _ => tg_name)
    (fun h hh => (EvO.ev (evO_lcm h dN (fun e => dN (sw c d e)) (fun e G => G.set 5 (some (.pl (dN e)))) [5] (ei_list ev_var) (fun _ _ => tg_name) (fun e he => ev_call (e, c, d) trivial (ea_cons ev_var (ea_cons ev_var (ea_cons ev_var ea_nil)))) (fun j h => h) (szl (by have := (good_hands o hh).1; omega)))).to (by show _ = dL ((h.map _).map dN); rw [List.map_map]; rfl)) (fun j h => h) (szl (by rw [List.length_map]; omega)))).to (by simp only [List.map_map]; rfl))) ?_
  refine rt_ret (ev_guar (ex_value o hc hd).2.1 (ea_cons ev_var (ea_cons ((ev_call (x, (x.seats.map fun s => s.cards).map fun h => h.map (sw c d)) trivial (ea_cons ev_var (ea_cons ev_var ea_nil))).to ?_) ea_nil)))
  unfold begP Vbndao.initialPosition
  rw [hands_ex]
  rfl
theorem ok_exchanged_value {P : Program} {w : World} {K : PySem.W.Frag} {mg : Str → Option Value} {base : Heap} (C : Ctx K mg) : Ok P w K mg base 31 "exchanged_value" ["deal", "first", "second"] (sp_exchanged_value K) :=
  ok_gen C 48 rfl rfl sc_exchanged_value fg_exchanged_value (fun _ _ _ _ _ _ hr o => dv_exchanged_value o (fun _ => rfl) ((ok_exchanged C).cal hr (by decide)) ((ok_beginning C).cal hr (by decide)) ((ok_guaranteed C).cal hr (by decide))) (fun _ _ _ _ _ _ us hl => match us, hl with | [_, _, _], _ => rfl) (len_of fun _ => rfl) fun _ _ _ _ h => reads_of (ev_exchanged_value C) h
end
end Fd

namespace Fd
open PySem PySem.Spec PyProof.Rows L2
open Vbndao (Deal Position)
section
variable {P : Program} {w : World} {K : PySem.W.Frag} {mg : Str → Option Value} {base : Heap}
theorem inV_nat (c : Nat) : ∀ l : List Nat, inV (.int (c : Int)) (l.map fun (n : Nat) => V.int (n : Int)) = l.contains c := by
  intro l
  unfold inV
  rw [List.contains_eq_any_beq, List.any_map]
  congr 1
  funext n
  show ((n : Int) == (c : Int)) = (c == n)
  rw [Bool.eq_iff_iff, beq_iff_eq, beq_iff_eq]
  omega
theorem ev_inN {neg : Bool} {G : En} {W : Wd} {ta tb : TE} {c : Nat} {l : List Nat} (ha : Ev ta G W (dN c)) (hb : Ev tb G W (dNs l)) : Ev (tOp (rIn K neg) ta tb) G W (dB (if neg then !l.contains c else l.contains c)) := by
  have h := ev_inL (neg := neg) (K := K) (xs := l.map fun (n : Nat) => V.int (n : Int)) ha (by rw [List.map_map]; exact hb) rfl (List.all_eq_true.mpr fun z hz => by obtain ⟨i, _, rfl⟩ := List.mem_map.mp hz; rfl)
  rw [inV_nat] at h
  exact h
def sp_planned_card (K : PySem.W.Frag) : Sp := spOf (fun a : List Nat × List Nat => a.1 ≠ []) (fun a => [dNs a.1, dNs a.2]) (fun a => dN ((Vbndao.plannedCard a.2 a.1).getD 0))
/-! planned_card -/
def N_planned_card : List Str := ["legal", "plan", "card"]
theorem sc_planned_card : FnScope ["legal", "plan", "card"] ["legal", "plan"] (defScope s_planned_card) := ⟨rfl, rfl, rfl, by decide +kernel, rfl, by decide +kernel, by decide +kernel⟩
theorem nm_planned_card : nmB ["legal", "plan", "card"] (defScope s_planned_card) [1, 2, 0] [2] [] = true := by decide +kernel
def t_planned_card (K : PySem.W.Frag) : TS := tSeq (tFor (iList K (tVar 1)) (gName 2) (tIfS (tTest (tOp (rIn K false) (tVar 2) (tVar 0))) (tRet (tVar 2)) (tNext))) (tRet (tOp (rIxL K) (tVar 0) (tC (.int 0))))
theorem dv_planned_card {X : Cx} (o0 : On fa X ["legal", "plan", "card"] (defScope s_planned_card)) (hf : ∀ x, X.fn x = true) : PSs X (defBody s_planned_card) (t_planned_card X.K) := by
  have n0 := nm_planned_card
  exact pss_cons (ps_for o0.nev o0.calm (pi_list (av o0 n0 1 (gm 0 rfl) rfl)) (ag o0 n0 hf 2 (gm 0 rfl) rfl) (pss_one (ps_if (pt_cmpR op_in_seq (av o0 n0 2 (gm 1 rfl) rfl) (av o0 n0 0 (gm 2 rfl) rfl) (by with_unfolding_all rfl)) (pss_one (ps_ret (av o0 n0 2 (gm 1 rfl) rfl))) (pss_nil)))) (pss_one (ps_ret (pe_ix ix_list (av o0 n0 0 (gm 2 rfl) rfl) (pe_int) (fun _ _ => rfl))))
theorem ev_planned_card (C : Ctx K mg) : ∀ a : List Nat × List Nat, a.1 ≠ [] → ∀ W, Rt (t_planned_card K) (envOf ["legal", "plan", "card"] [dNs a.1, dNs a.2]) W (rD (dN ((Vbndao.plannedCard a.2 a.1).getD 0))) := fun ⟨l, k⟩ h W => by
  dsimp only at h ⊢
  unfold Vbndao.plannedCard
  have tst : ∀ {G : En} {c : Nat}, G[0]? = some (some (.pl (dNs l))) → G[2]? = some (some (.pl (dN c))) → EvT (tTest (tOp (rIn K false) (tVar 2) (tVar 0))) G W (l.contains c) := fun g0 g2 => et_test (ev_inN (neg := false) (ev_var g2) (ev_var g0))
  cases e : k.find? (fun c => l.contains c) with
  | none =>
    rw [List.find?_eq_none] at e
    obtain ⟨c, r, el⟩ : ∃ c r, l = c :: r := by
      cases l with
      | nil => exact absurd rfl h
      | cons c r => exact ⟨c, r, rfl⟩
    refine rt_forM k dN (fun _ => [some (.pl (dNs l)), some (.pl (dNs k)), none]) (fun c G => G.set 2 (some (.pl (dN c)))) [2] [2] k.length (Nat.le_refl _) (ei_list ev_var) (fun _ _ => tg_name) (fun i a _ ha => ⟨_, nx_ifF ((tst rfl rfl).to (by simpa using e a (List.mem_of_getElem? ha))) nx_skip, rfl⟩) (fun a ha => ?_) fun _ => ?_
    · rw [List.getElem?_eq_none (Nat.le_refl _)] at ha
      cases ha
    · exact rt_ret (ev_ixL (j := 0) ev_var ev_c (by rw [el]; rfl))
  | some c =>
    obtain ⟨hc, as, bs, ek, hn⟩ := List.find?_eq_some_iff_append.mp e
    refine rt_forM k dN (fun _ => [some (.pl (dNs l)), some (.pl (dNs k)), none]) (fun c G => G.set 2 (some (.pl (dN c)))) [2] [2] as.length (by rw [ek, List.length_append]; omega) (ei_list ev_var) (fun _ _ => tg_name) (fun i a hi ha => ⟨_, nx_ifF ((tst rfl rfl).to ?_) nx_skip, rfl⟩) (fun a ha => ?_) fun hx => ?_
    · rw [ek, List.getElem?_append_left hi] at ha
      simpa using hn a (List.mem_of_getElem? ha)
    · rw [ek, List.getElem?_append_right (Nat.le_refl _), Nat.sub_self] at ha
      cases ha
      exact rt_ifT ((tst rfl rfl).to hc) (rt_ret ev_var)
    · rw [ek, List.length_append, List.length_cons] at hx
      omega
theorem ok_planned_card {P : Program} {w : World} {K : PySem.W.Frag} {mg : Str → Option Value} {base : Heap} (C : Ctx K mg) : Ok P w K mg base 1 "planned_card" ["legal", "plan"] (sp_planned_card K) :=
  ok_gen C 49 rfl rfl sc_planned_card fg_planned_card (fun _ _ _ _ _ _ hr o => dv_planned_card o (fun _ => rfl)) (fun _ _ _ _ _ _ us hl => match us, hl with | [_, _], _ => rfl) (len_of fun _ => rfl) fun _ _ _ _ h => reads_of (ev_planned_card C) h
abbrev APlan := Deal × Position × Nat × List Nat
abbrev domPlan (K : PySem.W.Frag) (a : APlan) : List Dsc := [dDeal K a.1, dPos K a.2.1, dN a.2.2.1, dNs a.2.2.2]
def sp_cards_by_plan (K : PySem.W.Frag) : Sp := spOf (fun a : APlan => Good a.1 a.2.1 ∧ Vbndao.isOver a.2.1 = false) (domPlan K) (fun a => dNs (byPlan a.1 a.2.1 a.2.2.1 a.2.2.2))
/-! cards_by_plan -/
def N_cards_by_plan : List Str := ["deal", "position", "side", "plan", "legal"]
theorem sc_cards_by_plan : FnScope ["deal", "position", "side", "plan", "legal"] ["deal", "position", "side", "plan"] (defScope s_cards_by_plan) := ⟨rfl, rfl, rfl, by decide +kernel, rfl, by decide +kernel, by decide +kernel⟩
theorem nm_cards_by_plan : nmB ["deal", "position", "side", "plan", "legal"] (defScope s_cards_by_plan) [0, 1, 2, 4, 3] [4] ["legal_cards", "side_to_move", "planned_card"] = true := by decide +kernel
def t_cards_by_plan (K : PySem.W.Frag) : TS := tSeq (tAsg (tCall (sp_legal_cards K) [] E0 (tCons (tVar 0) (tCons (tVar 1) (tNil)))) (gName 4)) (tRet (tIf (tTest (tOp rEq (tCall (sp_side_to_move K) [] E0 (tCons (tVar 0) (tCons (tVar 1) (tNil)))) (tVar 2))) (tLst (tCons (tCall (sp_planned_card K) [] E0 (tCons (tVar 4) (tCons (tVar 3) (tNil)))) (tNil))) (tVar 4)))
theorem dv_cards_by_plan {X : Cx} (o0 : On fa X ["deal", "position", "side", "plan", "legal"] (defScope s_cards_by_plan)) (hf : ∀ x, X.fn x = true) (c_legal_cards : Cal X "legal_cards" (sp_legal_cards X.K)) (c_side_to_move : Cal X "side_to_move" (sp_side_to_move X.K)) (c_planned_card : Cal X "planned_card" (sp_planned_card X.K)) : PSs X (defBody s_cards_by_plan) (t_cards_by_plan X.K) := by
  have n0 := nm_cards_by_plan
  exact pss_cons (aset o0 n0 hf 4 (acall o0 n0 c_legal_cards (pa_cons (av o0 n0 0 (gm 0 rfl) rfl) (pa_cons (av o0 n0 1 (gm 1 rfl) rfl) (pa_nil))) (gm 0 rfl)) (gm 0 rfl) rfl) (pss_one (ps_ret (pe_ifExp (pt_cmpR op_eq (acall o0 n0 c_side_to_move (pa_cons (av o0 n0 0 (gm 0 rfl) rfl) (pa_cons (av o0 n0 1 (gm 1 rfl) rfl) (pa_nil))) (gm 1 rfl)) (av o0 n0 2 (gm 2 rfl) rfl) (nomark _)) (pe_lst (pa_cons (acall o0 n0 c_planned_card (pa_cons (av o0 n0 4 (gm 3 rfl) rfl) (pa_cons (av o0 n0 3 (gm 4 rfl) rfl) (pa_nil))) (gm 2 rfl)) (pa_nil))) (av o0 n0 4 (gm 3 rfl) rfl))))
theorem ev_cards_by_plan (C : Ctx K mg) : ∀ a : APlan, (Good a.1 a.2.1 ∧ Vbndao.isOver a.2.1 = false) → ∀ W, Rt (t_cards_by_plan K) (envOf ["deal", "position", "side", "plan", "legal"] (domPlan K a)) W (rD (dNs (byPlan a.1 a.2.1 a.2.2.1 a.2.2.2))) := fun ⟨x, p, s, l⟩ ⟨g, ho⟩ W => by
  dsimp only at g ho ⊢
  unfold byPlan
  refine rt_seq (nx_set (ev_call (x, p) g (ea_cons ev_var (ea_cons ev_var ea_nil)))) ?_
  refine rt_ret (ev_if (b := decide (sideTo x p = s)) ((et_test (ev_eqI (ev_call (x, p) g (ea_cons ev_var (ea_cons ev_var ea_nil))) ev_var)).to (decide_eq_decide.mpr Int.ofNat_inj)) (fun e => ?_) fun e => ?_)
  · rw [if_pos (of_decide_eq_true e)]
    exact EvO.ev (evO_lst (ea_cons (ev_call (Vbndao.legalCards x p, l) (legal_ne (hand_ne g ho)) (ea_cons ev_var (ea_cons ev_var ea_nil))) ea_nil))
  · rw [if_neg (of_decide_eq_false e)]
    exact ev_var
theorem ok_cards_by_plan {P : Program} {w : World} {K : PySem.W.Frag} {mg : Str → Option Value} {base : Heap} (C : Ctx K mg) : Ok P w K mg base 3 "cards_by_plan" ["deal", "position", "side", "plan"] (sp_cards_by_plan K) :=
  ok_gen C 50 rfl rfl sc_cards_by_plan fg_cards_by_plan (fun _ _ _ _ _ _ hr o => dv_cards_by_plan o (fun _ => rfl) ((ok_legal_cards C).cal hr (by decide)) ((ok_side_to_move C).cal hr (by decide)) ((ok_planned_card C).cal hr (by decide))) (fun _ _ _ _ _ _ us hl => match us, hl with | [_, _, _, _], _ => rfl) (len_of fun _ => rfl) fun _ _ _ _ h => reads_of (ev_cards_by_plan C) h
def sp_planN (K : PySem.W.Frag) (n : Nat) : Sp := spOf (fun a : APlan => Good a.1 a.2.1 ∧ a.2.2.1 ≤ 1 ∧ Vbndao.cardsToPlay a.2.1 ≤ n) (domPlan K) (fun a => dN (planP a.1 a.2.2.1 a.2.2.2 a.2.1))
def sp_plvsN (K : PySem.W.Frag) (n : Nat) : Sp := spOf (fun a : APlan => Good a.1 a.2.1 ∧ a.2.2.1 ≤ 1 ∧ Vbndao.isOver a.2.1 = false ∧ Vbndao.cardsToPlay a.2.1 ≤ n) (domPlan K) (fun a => dNs (planVals a.1 a.2.2.1 a.2.2.2 a.2.1))
/-! plan_value -/
def N_plan_value : List Str := ["deal", "position", "side", "plan"]
theorem sc_plan_value : FnScope ["deal", "position", "side", "plan"] ["deal", "position", "side", "plan"] (defScope s_plan_value) := ⟨rfl, rfl, rfl, by decide +kernel, rfl, by decide +kernel, by decide +kernel⟩
theorem nm_plan_value : nmB ["deal", "position", "side", "plan"] (defScope s_plan_value) [1, 2, 0, 3] [] ["is_over", "plan_values", "min"] = true := by decide +kernel
def t_plan_value (K : PySem.W.Frag) (q_plan_values : Sp) : TS := tSeq (tIfS (tB (tCall (sp_is_over K) [] E0 (tCons (tVar 1) (tNil)))) (tRet (tOp (rIxT K) (tFld K (tVar 1) "points") (tVar 2))) (tNext)) (tRet (tCB (rMin K) (tCons (tCall q_plan_values [] E0 (tCons (tVar 0) (tCons (tVar 1) (tCons (tVar 2) (tCons (tVar 3) (tNil)))))) (tNil))))
theorem dv_plan_value {X : Cx} {q_plan_values : Sp} (o0 : On fa X ["deal", "position", "side", "plan"] (defScope s_plan_value)) (hf : ∀ x, X.fn x = true) (c_is_over : Cal X "is_over" (sp_is_over X.K)) (c_plan_values : Cal X "plan_values" q_plan_values) : PSs X (defBody s_plan_value) (t_plan_value X.K q_plan_values) := by
  have n0 := nm_plan_value
  exact pss_cons (ps_if (pt_val (acall o0 n0 c_is_over (pa_cons (av o0 n0 1 (gm 0 rfl) rfl) (pa_nil)) (gm 0 rfl))) (pss_one (ps_ret (pe_ix ix_tup (pe_fld (av o0 n0 1 (gm 0 rfl) rfl) rfl) (av o0 n0 2 (gm 1 rfl) rfl) (fun _ _ => rfl)))) (pss_nil)) (pss_one (ps_ret (acb o0 n0 (cr_min o0.calm) (by decide +kernel) (pa_cons (acall o0 n0 c_plan_values (pa_cons (av o0 n0 0 (gm 2 rfl) rfl) (pa_cons (av o0 n0 1 (gm 0 rfl) rfl) (pa_cons (av o0 n0 2 (gm 1 rfl) rfl) (pa_cons (av o0 n0 3 (gm 3 rfl) rfl) (pa_nil))))) (gm 1 rfl)) (pa_nil)) (gm 2 rfl) f_min)))
theorem ev_minN {G : En} {W : Wd} {te : TE} {l : List Nat} {m : Nat} (h : Ev te G W (dNs l)) (hm : m ∈ l) (hg : ∀ y ∈ l, m ≤ y) : Ev (tCB (rMin K) (tCons te tNil)) G W (dN m) := by
  refine ev_min (ns := l.map fun (n : Nat) => (n : Int)) (by rw [ints_nat]; exact h) (List.mem_map.mpr ⟨m, hm, rfl⟩) fun y hy => ?_
  obtain ⟨z, hz, rfl⟩ := List.mem_map.mp hy
  have := hg z hz
  omega
theorem ev_plan_value (C : Ctx K mg) {q : Sp} {n : Nat} (hq : ∀ {G : En} {W : Wd} {t : TA} (a : APlan), (Good a.1 a.2.1 ∧ a.2.2.1 ≤ 1 ∧ Vbndao.isOver a.2.1 = false ∧ Vbndao.cardsToPlay a.2.1 ≤ n) → EvA t G W (domPlan K a) → Ev (tCall q [] E0 t) G W (dNs (planVals a.1 a.2.2.1 a.2.2.2 a.2.1))) :
    ∀ a : APlan, (Good a.1 a.2.1 ∧ a.2.2.1 ≤ 1 ∧ Vbndao.cardsToPlay a.2.1 ≤ n) → ∀ W, Rt (t_plan_value K q) (envOf ["deal", "position", "side", "plan"] (domPlan K a)) W (rD (dN (planP a.1 a.2.2.1 a.2.2.2 a.2.1))) := fun ⟨x, p, s, l⟩ ⟨g, hs, hn⟩ W => by
  dsimp only at g hs hn ⊢
  have hl : p.hands.length ≤ 4 := by have := g.hands; have := g.n4; omega
  refine rt_ifR (et_B (ev_call p hl (ea_cons ev_var ea_nil))) (fun e => ?_) fun e => ?_
  · refine rt_ret ((ev_ixT (j := s) (d := dN (ptsOf s p)) (evp C ev_var fn_Position_points rfl) ev_var ?_).to (by rw [plan_over g e]))
    unfold ptsOf
    match s, hs with
    | 0, _ => rfl
    | 1, _ => rfl
  · have hp := not_over_pos g e
    obtain ⟨j, c, h1, h2, h3, _⟩ := plan_step (side := s) (l := l) g (n := Vbndao.cardsToPlay p - 1) (by omega)
    exact rt_ret (ev_minN (hq (x, p, s, l) ⟨g, hs, e, hn⟩ (ea_cons ev_var (ea_cons ev_var (ea_cons ev_var (ea_cons ev_var ea_nil))))) (List.mem_of_getElem? h2.1) h3)
/-! plan_values -/
def N_plan_values : List Str := ["deal", "position", "side", "plan", "cards", "card"]
theorem sc_plan_values : FnScope ["deal", "position", "side", "plan", "cards", "card"] ["deal", "position", "side", "plan"] (defScope s_plan_values) := ⟨rfl, rfl, rfl, by decide +kernel, rfl, by decide +kernel, by decide +kernel⟩
theorem nm_plan_values : nmB ["deal", "position", "side", "plan", "cards", "card"] (defScope s_plan_values) [0, 1, 2, 3, 4] [4] ["cards_by_plan"] = true := by decide +kernel
def t_plan_values (K : PySem.W.Frag) (q_plan_value : Sp) : TS := tSeq (tAsg (tCall (sp_cards_by_plan K) [] E0 (tCons (tVar 0) (tCons (tVar 1) (tCons (tVar 2) (tCons (tVar 3) (tNil)))))) (gName 4)) (tRet (tLc (iList K (tVar 4)) (gName 5) (tYes) (tCall q_plan_value [] E0 (tCons (tVar 0) (tCons (tCall (sp_after K) [] E0 (tCons (tVar 0) (tCons (tVar 1) (tCons (tVar 5) (tNil))))) (tCons (tVar 2) (tCons (tVar 3) (tNil)))))) [5]))
theorem dv_plan_values {X : Cx} {q_plan_value : Sp} (o0 : On fa X ["deal", "position", "side", "plan", "cards", "card"] (defScope s_plan_values)) (hf : ∀ x, X.fn x = true) (c_cards_by_plan : Cal X "cards_by_plan" (sp_cards_by_plan X.K)) (c_after : Cal X "after" (sp_after X.K)) (c_plan_value : Cal X "plan_value" q_plan_value) : PSs X (defBody s_plan_values) (t_plan_values X.K q_plan_value) := by
  have n0 := nm_plan_values
  exact pss_cons (aset o0 n0 hf 4 (acall o0 n0 c_cards_by_plan (pa_cons (av o0 n0 0 (gm 0 rfl) rfl) (pa_cons (av o0 n0 1 (gm 1 rfl) rfl) (pa_cons (av o0 n0 2 (gm 2 rfl) rfl) (pa_cons (av o0 n0 3 (gm 3 rfl) rfl) (pa_nil))))) (gm 0 rfl)) (gm 0 rfl) rfl) (pss_one (ps_ret (pe_lc (own := [("card", 5)]) o0.calm o0.nd (pi_list (av o0 n0 4 (gm 4 rfl) rfl)) (o0.ok (own := [("card", 5)]) (by decide +kernel)) (fun s1 H1 C1 l1 p1 => let o1 := o0.blk s1 H1 _ C1 l1 p1; agb o1 5 rfl (by decide +kernel)) (fun _ _ _ _ _ => pts_nil) (fun s1 H1 C1 l1 p1 => (fun (n1 : nmB _ (relS _ _) [0, 1, 5, 2, 3] [] ["after", "plan_value"] = true) => let o1 := o0.blk s1 H1 _ C1 l1 p1; acall o1 n1 c_plan_value.blk (pa_cons (av o1 n1 0 (gm 0 rfl) rfl) (pa_cons (acall o1 n1 c_after.blk (pa_cons (av o1 n1 0 (gm 0 rfl) rfl) (pa_cons (av o1 n1 1 (gm 1 rfl) rfl) (pa_cons (av o1 n1 5 (gm 2 rfl) rfl) (pa_nil)))) (gm 0 rfl)) (pa_cons (av o1 n1 2 (gm 3 rfl) rfl) (pa_cons (av o1 n1 3 (gm 4 rfl) rfl) (pa_nil))))) (gm 1 rfl)) (by decide +kernel)))))
theorem byPlan_len {x : Deal} {p : Position} {s : Nat} {l : List Nat} (g : Good x p) : (byPlan x p s l).length ≤ 4 := by
  unfold byPlan
  split
  · show 1 ≤ 4; omega
  · exact legal_le g
theorem ev_plan_values (C : Ctx K mg) (n : Nat) : ∀ a : APlan, (Good a.1 a.2.1 ∧ a.2.2.1 ≤ 1 ∧ Vbndao.isOver a.2.1 = false ∧ Vbndao.cardsToPlay a.2.1 ≤ n + 1) → ∀ W, Rt (t_plan_values K (sp_planN K n)) (envOf ["deal", "position", "side", "plan", "cards", "card"] (domPlan K a)) W (rD (dNs (planVals a.1 a.2.2.1 a.2.2.2 a.2.1))) := fun ⟨x, p, s, l⟩ ⟨g, hs, ho, hn⟩ W => by
  dsimp only at g hs ho hn ⊢
  have h4 := byPlan_len (s := s) (l := l) g
  have hsub := (byPlan_sub (side := s) (l := l) (legal_ne (hand_ne g ho))).2
  refine rt_seq (nx_set (ev_call (x, p, s, l) ⟨g, ho⟩ (ea_cons ev_var (ea_cons ev_var (ea_cons ev_var (ea_cons ev_var ea_nil)))))) ?_
  refine rt_frz (rt_retO ((evO_lcm (byPlan x p s l) dN (fun c => dN (planP x s l (Vbndao.playCard x p c))) (fun c G => G.set 5 (some (.pl (dN c)))) [5] (ei_list ev_var) (fun _ _ => tg_name)
    (fun c hc => ev_call (x, Vbndao.playCard x p c, s, l) ⟨good_legal g (hsub c hc), hs, by have := left_legal g (hsub c hc); show Vbndao.cardsToPlay (Vbndao.playCard x p c) ≤ n; omega⟩ (ea_cons ev_var (ea_cons (ev_call (x, p, c) ⟨g, hsub c hc⟩ (ea_cons ev_var (ea_cons ev_var (ea_cons ev_var ea_nil)))) (ea_cons ev_var (ea_cons ev_var ea_nil))))) (fun j h => h) (szl (by omega))).to ?_))
  unfold planVals
  rw [List.map_map]
  rfl
theorem ok_planN (C : Ctx K mg) : ∀ n : Nat, Ok P w K mg base (4 + 2 * n + 2) "plan_value" ["deal", "position", "side", "plan"] (sp_planN K n)
  | 0 => ok_gen C 51 rfl rfl sc_plan_value fg_plan_value (fun _ _ _ _ _ _ hr o => dv_plan_value o (fun _ => rfl) ((ok_is_over C).cal hr (by decide)) ((ok_void (x := "plan_values") C 4 52 rfl rfl sc_plan_values fg_plan_values (fun _ _ _ _ _ _ us hl => match us, hl with | [_, _, _, _], _ => rfl)).cal hr (by decide)))
      (fun _ _ _ _ _ _ us hl => match us, hl with | [_, _, _, _], _ => rfl) (len_of fun _ => rfl) fun _ _ _ _ h => reads_of (ev_plan_value C fun a h => absurd (show Vbndao.cardsToPlay a.2.1 = 0 by have := h.2.2.2; omega) fun e => by have h2 := (left_over h.1).mpr e; rw [h.2.2.1] at h2; cases h2) h
  | n + 1 => ok_gen C 51 rfl rfl sc_plan_value fg_plan_value (fun _ _ _ _ _ _ hr o => dv_plan_value o (fun _ => rfl) ((ok_is_over C).cal hr (by show _ ≤ 4 + 2 * (n + 1) + 1; omega)) ((show Ok P w K mg base (4 + 2 * n + 2 + 1) "plan_values" ["deal", "position", "side", "plan"] (sp_plvsN K (n + 1)) from
      ok_gen C 52 rfl rfl sc_plan_values fg_plan_values (fun _ _ _ _ _ _ hr o => dv_plan_values o (fun _ => rfl) ((ok_cards_by_plan C).cal hr (by show _ ≤ 4 + 2 * n + 2; omega)) ((ok_after C).cal hr (by omega)) ((ok_planN C n).cal hr (Nat.le_refl _)))
        (fun _ _ _ _ _ _ us hl => match us, hl with | [_, _, _, _], _ => rfl) (len_of fun _ => rfl) fun _ _ _ _ h => reads_of (ev_plan_values C n) h).cal hr (by omega)))
      (fun _ _ _ _ _ _ us hl => match us, hl with | [_, _, _, _], _ => rfl) (len_of fun _ => rfl) fun _ _ _ _ h => reads_of (ev_plan_value C fun a hp h => ev_call (pre := fun a : APlan => Good a.1 a.2.1 ∧ a.2.2.1 ≤ 1 ∧ Vbndao.isOver a.2.1 = false ∧ Vbndao.cardsToPlay a.2.1 ≤ n + 1) (dom := domPlan K) (cod := fun a => dNs (planVals a.1 a.2.2.1 a.2.2.2 a.2.1)) a hp h) h
def sp_plan_value (K : PySem.W.Frag) : Sp := sp_planN K 12
def sp_plan_values (K : PySem.W.Frag) : Sp := sp_plvsN K 13
theorem ok_plan_value (C : Ctx K mg) : Ok P w K mg base 30 "plan_value" ["deal", "position", "side", "plan"] (sp_plan_value K) := ok_planN C 12
theorem ok_plan_values (C : Ctx K mg) : Ok P w K mg base 31 "plan_values" ["deal", "position", "side", "plan"] (sp_plan_values K) := show Ok P w K mg base 31 "plan_values" ["deal", "position", "side", "plan"] (sp_plvsN K (12 + 1)) from
  ok_gen C 52 rfl rfl sc_plan_values fg_plan_values (fun _ _ _ _ _ _ hr o => dv_plan_values o (fun _ => rfl) ((ok_cards_by_plan C).cal hr (by decide)) ((ok_after C).cal hr (by decide)) ((ok_planN C 12).cal hr (by decide)))
    (fun _ _ _ _ _ _ us hl => match us, hl with | [_, _, _, _], _ => rfl) (len_of fun _ => rfl) fun _ _ _ _ h => reads_of (ev_plan_values C 12) h
theorem ev_planV {G : En} {W : Wd} {t : TA} {x : Deal} {p : Position} {s : Nat} {l : List Nat} (g : Good x p) (hs : s ≤ 1) (h : EvA t G W (domPlan K (x, p, s, l))) : Ev (tCall (sp_plan_value K) [] E0 t) G W (dN (planP x s l p)) :=
  ev_call (pre := fun a : APlan => Good a.1 a.2.1 ∧ a.2.2.1 ≤ 1 ∧ Vbndao.cardsToPlay a.2.1 ≤ 12) (dom := domPlan K) (cod := fun a => dN (planP a.1 a.2.2.1 a.2.2.2 a.2.1)) (x, p, s, l) ⟨g, hs, left_le g⟩ h
theorem ev_planVs {G : En} {W : Wd} {t : TA} {x : Deal} {p : Position} {s : Nat} {l : List Nat} (g : Good x p) (hs : s ≤ 1) (ho : Vbndao.isOver p = false) (h : EvA t G W (domPlan K (x, p, s, l))) : Ev (tCall (sp_plan_values K) [] E0 t) G W (dNs (planVals x s l p)) :=
  ev_call (pre := fun a : APlan => Good a.1 a.2.1 ∧ a.2.2.1 ≤ 1 ∧ Vbndao.isOver a.2.1 = false ∧ Vbndao.cardsToPlay a.2.1 ≤ 13) (dom := domPlan K) (cod := fun a => dNs (planVals a.1 a.2.2.1 a.2.2.2 a.2.1)) (x, p, s, l) ⟨g, hs, ho, by have := left_le g; show Vbndao.cardsToPlay p ≤ 13; omega⟩ h
def planL (x : Deal) (p : Position) (s : Nat) (l : List Nat) : List Nat := (List.range (Vbndao.cardsToPlay p)).map fun i => lineC x s l (posL x s l i p)
def sp_plan_line (K : PySem.W.Frag) : Sp := spOf (fun a : APlan => Good a.1 a.2.1 ∧ a.2.2.1 ≤ 1) (domPlan K) (fun a => dNs (planL a.1 a.2.1 a.2.2.1 a.2.2.2))
/-! plan_line -/
def N_plan_line : List Str := ["deal", "position", "side", "plan", "here", "found", "turn", "values", "card"]
theorem sc_plan_line : FnScope ["deal", "position", "side", "plan", "here", "found", "turn", "values", "card"] ["deal", "position", "side", "plan"] (defScope s_plan_line) := ⟨rfl, rfl, rfl, by decide +kernel, rfl, by decide +kernel, by decide +kernel⟩
theorem nm_plan_line : nmB ["deal", "position", "side", "plan", "here", "found", "turn", "values", "card"] (defScope s_plan_line) [1, 0, 4, 2, 3, 7, 5, 8] [4, 5, 6, 7, 8] ["cards_left", "range", "plan_values", "cards_by_plan", "min", "after"] = true := by decide +kernel
def t_plan_line (K : PySem.W.Frag) (q_plan_values : Sp) : TS := tSeq (tPar 4 5 (tCons (tVar 1) (tCons (tLst (tNil)) (tNil)))) (tSeq (tFor (iRng1 (tCons (tCall (sp_cards_left K) [] E0 (tCons (tVar 1) (tNil))) (tNil))) (gName 6) (tSeq (tAsg (tCall q_plan_values [] E0 (tCons (tVar 0) (tCons (tVar 4) (tCons (tVar 2) (tCons (tVar 3) (tNil)))))) (gName 7)) (tSeq (tAsg (tOp (rIxL K) (tCall (sp_cards_by_plan K) [] E0 (tCons (tVar 0) (tCons (tVar 4) (tCons (tVar 2) (tCons (tVar 3) (tNil)))))) (tBM K "list" (rIndex K) (tVar 7) (tCons (tCB (rMin K) (tCons (tVar 7) (tNil))) (tNil)))) (gName 8)) (tSeq (tDrop (tBM K "list" rAppend (tVar 5) (tCons (tVar 8) (tNil)))) (tAsg (tCall (sp_after K) [] E0 (tCons (tVar 0) (tCons (tVar 4) (tCons (tVar 8) (tNil))))) (gName 4)))))) (tRet (tVar 5)))
theorem dv_plan_line {X : Cx} {q_plan_values : Sp} (o0 : On fa X ["deal", "position", "side", "plan", "here", "found", "turn", "values", "card"] (defScope s_plan_line)) (hf : ∀ x, X.fn x = true) (c_cards_left : Cal X "cards_left" (sp_cards_left X.K)) (c_plan_values : Cal X "plan_values" q_plan_values) (c_cards_by_plan : Cal X "cards_by_plan" (sp_cards_by_plan X.K)) (c_after : Cal X "after" (sp_after X.K)) : PSs X (defBody s_plan_line) (t_plan_line X.K q_plan_values) := by
  have n0 := nm_plan_line
  exact pss_cons (apar o0 (i := 4) (j := 5) rfl rfl (by decide) (by decide +kernel) (by decide +kernel) (pa_cons (av o0 n0 1 (gm 0 rfl) rfl) (pa_cons (pe_lst (pa_nil)) (pa_nil))) (by rfl)) (pss_cons (ps_for o0.nev o0.calm (pi_range1 (o0.gl n0 (gm 1 rfl)) (o0.gb.free f_range) (pa_cons (acall o0 n0 c_cards_left (pa_cons (av o0 n0 1 (gm 0 rfl) rfl) (pa_nil)) (gm 0 rfl)) (pa_nil))) (ag o0 n0 hf 6 (gm 2 rfl) rfl) (pss_cons (aset o0 n0 hf 7 (acall o0 n0 c_plan_values (pa_cons (av o0 n0 0 (gm 1 rfl) rfl) (pa_cons (av o0 n0 4 (gm 2 rfl) rfl) (pa_cons (av o0 n0 2 (gm 3 rfl) rfl) (pa_cons (av o0 n0 3 (gm 4 rfl) rfl) (pa_nil))))) (gm 2 rfl)) (gm 3 rfl) rfl) (pss_cons (aset o0 n0 hf 8 (pe_ix ix_list (acall o0 n0 c_cards_by_plan (pa_cons (av o0 n0 0 (gm 1 rfl) rfl) (pa_cons (av o0 n0 4 (gm 2 rfl) rfl) (pa_cons (av o0 n0 2 (gm 3 rfl) rfl) (pa_cons (av o0 n0 3 (gm 4 rfl) rfl) (pa_nil))))) (gm 3 rfl)) (pe_bm PySem.F.plainAttrs_list PySem.F.slot_list_index PySem.F.type_list_index mt_index (av o0 n0 7 (gm 5 rfl) rfl) (pa_cons (acb o0 n0 (cr_min o0.calm) (by decide +kernel) (pa_cons (av o0 n0 7 (gm 5 rfl) rfl) (pa_nil)) (gm 4 rfl) f_min) (pa_nil))) (fun _ _ => rfl)) (gm 4 rfl) rfl) (pss_cons (ps_expr (pe_bm PySem.F.plainAttrs_list PySem.F.slot_list_append PySem.F.type_list_append mt_append (av o0 n0 5 (gm 6 rfl) rfl) (pa_cons (av o0 n0 8 (gm 7 rfl) rfl) (pa_nil)))) (pss_one (aset o0 n0 hf 4 (acall o0 n0 c_after (pa_cons (av o0 n0 0 (gm 1 rfl) rfl) (pa_cons (av o0 n0 4 (gm 2 rfl) rfl) (pa_cons (av o0 n0 8 (gm 7 rfl) rfl) (pa_nil)))) (gm 5 rfl)) (gm 0 rfl) rfl)))))) (pss_one (ps_ret (av o0 n0 5 (gm 6 rfl) rfl))))
theorem ev_plan_line (C : Ctx K mg) : ∀ a : APlan, (Good a.1 a.2.1 ∧ a.2.2.1 ≤ 1) → ∀ W, Rt (t_plan_line K (sp_plan_values K)) (envOf ["deal", "position", "side", "plan", "here", "found", "turn", "values", "card"] (domPlan K a)) W (rD (dNs (planL a.1 a.2.1 a.2.2.1 a.2.2.2))) := fun ⟨x, p, s, l⟩ ⟨g, hs⟩ W => by
  dsimp only at g hs ⊢
  have hl := left_le g
  refine rt_seq (nx_parO ev_var (evO_lst ea_nil)) ?_
  refine rt_seq (nx_forK (List.range (Vbndao.cardsToPlay p)) dN (fun i => [some (.pl (dDeal K x)), some (.pl (dPos K p)), some (.pl (dN s)), some (.pl (dNs l)), some (.pl (dPos K (posL x s l i p))), some (.ow (ownL W (((List.range i).map fun i => lineC x s l (posL x s l i p)).map dN))), none, none, none]) (fun c G => G.set 6 (some (.pl (dN c)))) [6] [6, 7, 8]
    (ei_rangeM (ev_left g ev_var) (left_small g)) (fun _ _ => tg_name) fun i a ha => ?_) ?_
  · obtain ⟨rfl, hi⟩ := rg_get ha
    obtain ⟨g1, e1⟩ := posL_good (side := s) (l := l) a g (by omega)
    have ho : Vbndao.isOver (posL x s l a p) = false := over_of_left g1 (n := Vbndao.cardsToPlay p - a - 1) (by omega)
    obtain ⟨j, h1, h2, h3, h4⟩ := line_card (side := s) (l := l) g1 (n := Vbndao.cardsToPlay p - a - 1) (by omega)
    refine ⟨_, nx_seq (nx_set (ev_planVs g1 hs ho (ea_cons ev_var (ea_cons ev_var (ea_cons ev_var (ea_cons ev_var ea_nil)))))) (nx_seq (nx_set (ev_ixL (j := j) (ev_call (x, posL x s l a p, s, l) ⟨g1, ho⟩ (ea_cons ev_var (ea_cons ev_var (ea_cons ev_var (ea_cons ev_var ea_nil))))) (ev_indexN ev_var (ev_minN ev_var (List.mem_of_getElem? h2.1) h3) h2) (get_dN h1)))
      (nx_seq (nx_app (i := 5) rfl rfl ev_var (by rw [List.length_map, List.length_map, List.length_range]; exact szl (by omega))) (nx_set (ev_call (x, posL x s l a p, lineC x s l (posL x s l a p)) ⟨g1, h4⟩ (ea_cons ev_var (ea_cons ev_var (ea_cons ev_var ea_nil))))))), ?_⟩
    rw [range_map_succ, List.map_append, posL_succ]
    rfl
  · rw [List.length_range]
    exact rt_frzV rfl
theorem ok_plan_line {P : Program} {w : World} {K : PySem.W.Frag} {mg : Str → Option Value} {base : Heap} (C : Ctx K mg) : Ok P w K mg base 32 "plan_line" ["deal", "position", "side", "plan"] (sp_plan_line K) :=
  ok_gen C 53 rfl rfl sc_plan_line fg_plan_line (fun _ _ _ _ _ _ hr o => dv_plan_line o (fun _ => rfl) ((ok_cards_left C).cal hr (by decide)) ((ok_plan_values C).cal hr (by decide)) ((ok_cards_by_plan C).cal hr (by decide)) ((ok_after C).cal hr (by decide))) (fun _ _ _ _ _ _ us hl => match us, hl with | [_, _, _, _], _ => rfl) (len_of fun _ => rfl) fun _ _ _ _ h => reads_of (ev_plan_line C) h
def sp_chosen_card (K : PySem.W.Frag) : Sp := spOf (fun a : List Nat × List Nat × Nat => a.1 ≠ []) (fun a => [dNs a.1, dNs a.2.1, dN a.2.2]) (fun a => dN (a.1.getD ((a.2.1.getD a.2.2 0) % a.1.length) 0))
/-! chosen_card -/
def N_chosen_card : List Str := ["legal", "choices", "used", "choice"]
theorem sc_chosen_card : FnScope ["legal", "choices", "used", "choice"] ["legal", "choices", "used"] (defScope s_chosen_card) := ⟨rfl, rfl, rfl, by decide +kernel, rfl, by decide +kernel, by decide +kernel⟩
theorem nm_chosen_card : nmB ["legal", "choices", "used", "choice"] (defScope s_chosen_card) [2, 1, 0, 3] [3] ["len"] = true := by decide +kernel
def t_chosen_card (K : PySem.W.Frag) : TS := tSeq (tAsg (tIf (tTest (tOp oLt (tVar 2) (tCB (cLen K) (tCons (tVar 1) (tNil))))) (tOp (rIxL K) (tVar 1) (tVar 2)) (tC (.int 0))) (gName 3)) (tRet (tOp (rIxL K) (tVar 0) (tOp oMod (tVar 3) (tCB (cLen K) (tCons (tVar 0) (tNil))))))
theorem dv_chosen_card {X : Cx} (o0 : On fa X ["legal", "choices", "used", "choice"] (defScope s_chosen_card)) (hf : ∀ x, X.fn x = true) : PSs X (defBody s_chosen_card) (t_chosen_card X.K) := by
  have n0 := nm_chosen_card
  exact pss_cons (aset o0 n0 hf 3 (pe_ifExp (pt_cmpR op_lt (av o0 n0 2 (gm 0 rfl) rfl) (acb o0 n0 call_len_seq (by decide +kernel) (pa_cons (av o0 n0 1 (gm 1 rfl) rfl) (pa_nil)) (gm 0 rfl) f_len) (nomark _)) (pe_ix ix_list (av o0 n0 1 (gm 1 rfl) rfl) (av o0 n0 2 (gm 0 rfl) rfl) (fun _ _ => rfl)) (pe_int)) (gm 0 rfl) rfl) (pss_one (ps_ret (pe_ix ix_list (av o0 n0 0 (gm 2 rfl) rfl) (pe_op op_mod (av o0 n0 3 (gm 3 rfl) rfl) (acb o0 n0 call_len_seq (by decide +kernel) (pa_cons (av o0 n0 0 (gm 2 rfl) rfl) (pa_nil)) (gm 0 rfl) f_len)) (fun _ _ => rfl))))
theorem ev_chosen_card (C : Ctx K mg) : ∀ a : List Nat × List Nat × Nat, a.1 ≠ [] → ∀ W, Rt (t_chosen_card K) (envOf ["legal", "choices", "used", "choice"] [dNs a.1, dNs a.2.1, dN a.2.2]) W (rD (dN (a.1.getD ((a.2.1.getD a.2.2 0) % a.1.length) 0))) := fun ⟨l, k, u⟩ h W => by
  dsimp only at h ⊢
  have hl : 0 < l.length := List.length_pos_iff.mpr h
  refine rt_seq (nx_set (d := dN (k.getD u 0)) (ev_if (b := decide (u < k.length)) ((et_test (ev_I0 ev_var (ev_lenM ev_var))).to (decide_eq_decide.mpr Int.ofNat_lt)) (fun e => ?_) fun e => ?_)) ?_
  · rw [decide_eq_true_eq] at e
    exact ev_ixL (j := u) ev_var ev_var (get_dN (by rw [List.getD_eq_getElem?_getD, List.getElem?_eq_getElem e]; rfl))
  · rw [decide_eq_false_iff_not] at e
    exact ev_c.to (by rw [List.getD_eq_getElem?_getD, List.getElem?_eq_none (by omega)]; rfl)
  · have hm : k.getD u 0 % l.length < l.length := Nat.mod_lt _ hl
    exact rt_ret (ev_ixL (j := k.getD u 0 % l.length) ev_var (ev_modN ev_var (ev_lenM ev_var) hl) (get_dN (by rw [List.getD_eq_getElem?_getD (i := k.getD u 0 % l.length), List.getElem?_eq_getElem hm]; rfl)))
theorem ok_chosen_card {P : Program} {w : World} {K : PySem.W.Frag} {mg : Str → Option Value} {base : Heap} (C : Ctx K mg) : Ok P w K mg base 1 "chosen_card" ["legal", "choices", "used"] (sp_chosen_card K) :=
  ok_gen C 54 rfl rfl sc_chosen_card fg_chosen_card (fun _ _ _ _ _ _ hr o => dv_chosen_card o (fun _ => rfl)) (fun _ _ _ _ _ _ us hl => match us, hl with | [_, _, _], _ => rfl) (len_of fun _ => rfl) fun _ _ _ _ h => reads_of (ev_chosen_card C) h
def sp_points_against (K : PySem.W.Frag) : Sp := spOf (fun a : APlan => Good a.1 a.2.1) (domPlan K) (fun a => dT K [dN (posA a.1 a.2.2.1 a.2.2.2 (Vbndao.cardsToPlay a.2.1) (a.2.1, 0)).1.scores.1, dN (posA a.1 a.2.2.1 a.2.2.2 (Vbndao.cardsToPlay a.2.1) (a.2.1, 0)).1.scores.2])
/-! points_against -/
def N_points_against : List Str := ["deal", "position", "side", "choices", "here", "used", "turn", "card"]
theorem sc_points_against : FnScope ["deal", "position", "side", "choices", "here", "used", "turn", "card"] ["deal", "position", "side", "choices"] (defScope s_points_against) := ⟨rfl, rfl, rfl, by decide +kernel, rfl, by decide +kernel, by decide +kernel⟩
theorem nm_points_against : nmB ["deal", "position", "side", "choices", "here", "used", "turn", "card"] (defScope s_points_against) [1, 0, 4, 2, 3, 5, 7] [4, 5, 6, 7] ["cards_left", "range", "side_to_move", "best_card", "legal_cards", "chosen_card", "after"] = true := by decide +kernel
def t_points_against (K : PySem.W.Frag) : TS := tSeq (tPar 4 5 (tCons (tVar 1) (tCons (tC (.int 0)) (tNil)))) (tSeq (tFor (iRng1 (tCons (tCall (sp_cards_left K) [] E0 (tCons (tVar 1) (tNil))) (tNil))) (gName 6) (tSeq (tIfS (tTest (tOp rEq (tCall (sp_side_to_move K) [] E0 (tCons (tVar 0) (tCons (tVar 4) (tNil)))) (tVar 2))) (tAsg (tCall (sp_best_card K) [] E0 (tCons (tVar 0) (tCons (tVar 4) (tNil)))) (gName 7)) (tSeq (tAsg (tCall (sp_chosen_card K) [] E0 (tCons (tCall (sp_legal_cards K) [] E0 (tCons (tVar 0) (tCons (tVar 4) (tNil)))) (tCons (tVar 3) (tCons (tVar 5) (tNil))))) (gName 7)) (tAsg (tOp oAdd (tVar 5) (tC (.int 1))) (gName 5)))) (tAsg (tCall (sp_after K) [] E0 (tCons (tVar 0) (tCons (tVar 4) (tCons (tVar 7) (tNil))))) (gName 4)))) (tRet (tFld K (tVar 4) "points")))
theorem dv_points_against {X : Cx} (o0 : On fa X ["deal", "position", "side", "choices", "here", "used", "turn", "card"] (defScope s_points_against)) (hf : ∀ x, X.fn x = true) (c_cards_left : Cal X "cards_left" (sp_cards_left X.K)) (c_side_to_move : Cal X "side_to_move" (sp_side_to_move X.K)) (c_best_card : Cal X "best_card" (sp_best_card X.K)) (c_legal_cards : Cal X "legal_cards" (sp_legal_cards X.K)) (c_chosen_card : Cal X "chosen_card" (sp_chosen_card X.K)) (c_after : Cal X "after" (sp_after X.K)) : PSs X (defBody s_points_against) (t_points_against X.K) := by
  have n0 := nm_points_against
  exact pss_cons (apar o0 (i := 4) (j := 5) rfl rfl (by decide) (by decide +kernel) (by decide +kernel) (pa_cons (av o0 n0 1 (gm 0 rfl) rfl) (pa_cons (pe_int) (pa_nil))) (by rfl)) (pss_cons (ps_for o0.nev o0.calm (pi_range1 (o0.gl n0 (gm 1 rfl)) (o0.gb.free f_range) (pa_cons (acall o0 n0 c_cards_left (pa_cons (av o0 n0 1 (gm 0 rfl) rfl) (pa_nil)) (gm 0 rfl)) (pa_nil))) (ag o0 n0 hf 6 (gm 2 rfl) rfl) (pss_cons (ps_if (pt_cmpR op_eq (acall o0 n0 c_side_to_move (pa_cons (av o0 n0 0 (gm 1 rfl) rfl) (pa_cons (av o0 n0 4 (gm 2 rfl) rfl) (pa_nil))) (gm 2 rfl)) (av o0 n0 2 (gm 3 rfl) rfl) (nomark _)) (pss_one (aset o0 n0 hf 7 (acall o0 n0 c_best_card (pa_cons (av o0 n0 0 (gm 1 rfl) rfl) (pa_cons (av o0 n0 4 (gm 2 rfl) rfl) (pa_nil))) (gm 3 rfl)) (gm 3 rfl) rfl)) (pss_cons (aset o0 n0 hf 7 (acall o0 n0 c_chosen_card (pa_cons (acall o0 n0 c_legal_cards (pa_cons (av o0 n0 0 (gm 1 rfl) rfl) (pa_cons (av o0 n0 4 (gm 2 rfl) rfl) (pa_nil))) (gm 4 rfl)) (pa_cons (av o0 n0 3 (gm 4 rfl) rfl) (pa_cons (av o0 n0 5 (gm 5 rfl) rfl) (pa_nil)))) (gm 5 rfl)) (gm 3 rfl) rfl) (pss_one (aset o0 n0 hf 5 (pe_op op_add (av o0 n0 5 (gm 5 rfl) rfl) (pe_int)) (gm 1 rfl) rfl)))) (pss_one (aset o0 n0 hf 4 (acall o0 n0 c_after (pa_cons (av o0 n0 0 (gm 1 rfl) rfl) (pa_cons (av o0 n0 4 (gm 2 rfl) rfl) (pa_cons (av o0 n0 7 (gm 6 rfl) rfl) (pa_nil)))) (gm 6 rfl)) (gm 0 rfl) rfl)))) (pss_one (ps_ret (pe_fld (av o0 n0 4 (gm 2 rfl) rfl) rfl))))
theorem ev_points_against (C : Ctx K mg) : ∀ a : APlan, Good a.1 a.2.1 → ∀ W, Rt (t_points_against K) (envOf ["deal", "position", "side", "choices", "here", "used", "turn", "card"] (domPlan K a)) W (rD (dT K [dN (posA a.1 a.2.2.1 a.2.2.2 (Vbndao.cardsToPlay a.2.1) (a.2.1, 0)).1.scores.1, dN (posA a.1 a.2.2.1 a.2.2.2 (Vbndao.cardsToPlay a.2.1) (a.2.1, 0)).1.scores.2])) := fun ⟨x, p, s, l⟩ g W => by
  dsimp only at g ⊢
  have hl := left_le g
  refine rt_seq (nx_par (d' := dN 0) ev_var ev_c) ?_
  refine rt_seq (nx_forK (List.range (Vbndao.cardsToPlay p)) dN (fun i => [some (.pl (dDeal K x)), some (.pl (dPos K p)), some (.pl (dN s)), some (.pl (dNs l)), some (.pl (dPos K (posA x s l i (p, 0)).1)), some (.pl (dN (posA x s l i (p, 0)).2)), none, none]) (fun c G => G.set 6 (some (.pl (dN c)))) [6] [6, 7]
    (ei_rangeM (ev_left g ev_var) (left_small g)) (fun _ _ => tg_name) fun i a ha => ?_) ?_
  · obtain ⟨rfl, hi⟩ := rg_get ha
    obtain ⟨g1, e1⟩ := posA_good (side := s) (ks := l) a 0 g (by omega)
    rw [posA_succ]
    generalize posA x s l a (p, 0) = y at g1 e1 ⊢
    obtain ⟨y, u⟩ := y
    dsimp only at g1 e1 ⊢
    have ho : Vbndao.isOver y = false := over_of_left g1 (n := Vbndao.cardsToPlay p - a - 1) (by omega)
    have tst : ∀ {G : En}, G[0]? = some (some (.pl (dDeal K x))) → G[4]? = some (some (.pl (dPos K y))) → G[2]? = some (some (.pl (dN s))) → EvT (tTest (tOp rEq (tCall (sp_side_to_move K) [] E0 (tCons (tVar 0) (tCons (tVar 4) tNil))) (tVar 2))) G W (decide (sideTo x y = s)) := fun g0 g4 g2 => (et_test (ev_eqI (ev_call (x, y) g1 (ea_cons (ev_var g0) (ea_cons (ev_var g4) ea_nil))) (ev_var g2))).to (decide_eq_decide.mpr Int.ofNat_inj)
    unfold turnA
    dsimp only
    by_cases e : sideTo x y = s
    · rw [if_pos e]
      refine ⟨_, nx_seq (nx_ifT ((tst rfl rfl rfl).to (decide_eq_true e)) (nx_set (ev_call (x, y) ⟨g1, ho⟩ (ea_cons ev_var (ea_cons ev_var ea_nil))))) (nx_set (ev_call (x, y, bestC x y) ⟨g1, best_legal g1 ho⟩ (ea_cons ev_var (ea_cons ev_var (ea_cons ev_var ea_nil))))), rfl⟩
    · rw [if_neg e]
      have hne := legal_ne (hand_ne g1 ho)
      refine ⟨_, nx_seq (nx_ifF ((tst rfl rfl rfl).to (decide_eq_false e)) (nx_seq (nx_set (ev_call (Vbndao.legalCards x y, l, u) hne (ea_cons (ev_call (x, y) g1 (ea_cons ev_var (ea_cons ev_var ea_nil))) (ea_cons ev_var (ea_cons ev_var ea_nil))))) (nx_set (ev_addN (k := 1) ev_var ev_c)))) (nx_set (ev_call (x, y, (Vbndao.legalCards x y).getD ((l.getD u 0) % (Vbndao.legalCards x y).length) 0) ⟨g1, getD_mod_mem hne _⟩ (ea_cons ev_var (ea_cons ev_var (ea_cons ev_var ea_nil))))), rfl⟩
  · rw [List.length_range]
    exact rt_ret (evp C ev_var fn_Position_points rfl)
theorem ok_points_against {P : Program} {w : World} {K : PySem.W.Frag} {mg : Str → Option Value} {base : Heap} (C : Ctx K mg) : Ok P w K mg base 33 "points_against" ["deal", "position", "side", "choices"] (sp_points_against K) :=
  ok_gen C 55 rfl rfl sc_points_against fg_points_against (fun _ _ _ _ _ _ hr o => dv_points_against o (fun _ => rfl) ((ok_cards_left C).cal hr (by decide)) ((ok_side_to_move C).cal hr (by decide)) ((ok_best_card C).cal hr (by decide)) ((ok_legal_cards C).cal hr (by decide)) ((ok_chosen_card C).cal hr (by decide)) ((ok_after C).cal hr (by decide))) (fun _ _ _ _ _ _ us hl => match us, hl with | [_, _, _, _], _ => rfl) (len_of fun _ => rfl) fun _ _ _ _ h => reads_of (ev_points_against C) h
end
end Fd

namespace Fd
open PySem PySem.Spec PyProof.Rows L2
open Vbndao (Deal Position)
section
variable {P : Program} {w : World} {K : PySem.W.Frag} {mg : Str → Option Value} {base : Heap}
theorem ints_at {l : List Int} {j : Nat} (h : j < l.length) : (l.map dI)[j]? = some (dI (l.getD j 0)) := by
  rw [List.getElem?_map, List.getElem?_eq_getElem h, List.getD_eq_getElem?_getD, List.getElem?_eq_getElem h]
  rfl
theorem nats_at {l : List Nat} {j : Nat} (h : j < l.length) : (l.map dN)[j]? = some (dN (l.getD j 0)) := by
  rw [List.getElem?_map, List.getElem?_eq_getElem h, List.getD_eq_getElem?_getD, List.getElem?_eq_getElem h]
  rfl
theorem inV_int (c : Int) (l : List Int) : inV (.int c) (l.map V.int) = l.contains c := by
  unfold inV
  rw [List.contains_eq_any_beq, List.any_map]
  congr 1
  funext n
  show (n == c) = (c == n)
  rw [Bool.eq_iff_iff, beq_iff_eq, beq_iff_eq]
  exact eq_comm
/-- x in (a, b, ..), whole numbers -/
theorem ev_inC {neg : Bool} {G : En} {W : Wd} {ta tb : TE} {c : Int} (l : List Int) (ha : Ev ta G W (dI c)) (hb : Ev tb G W (dT K (l.map dI))) : Ev (tOp (rIn K neg) ta tb) G W (dB (if neg then !l.contains c else l.contains c)) := by
  have h := ev_inT (neg := neg) (K := K) (xs := l.map V.int) ha (by rw [List.map_map]; exact hb) rfl (List.all_eq_true.mpr fun z hz => by obtain ⟨i, _, rfl⟩ := List.mem_map.mp hz; rfl)
  rw [inV_int] at h
  exact h
theorem ev_isC {G : En} {W : Wd} {ta tb : TE} {c : Int} (l : List Int) (ha : Ev ta G W (dI c)) (hb : Ev tb G W (dT K (l.map dI))) : Ev (tOp (rIn K false) ta tb) G W (dB (l.contains c)) := ev_inC (neg := false) l ha hb
theorem ev_isM {G : En} {W : Wd} {ta tb : TE} {c : Nat} {l : List Nat} (ha : Ev ta G W (dN c)) (hb : Ev tb G W (dNs l)) : Ev (tOp (rIn K false) ta tb) G W (dB (l.contains c)) := ev_inN (neg := false) ha hb
theorem ev_niM {G : En} {W : Wd} {ta tb : TE} {c : Nat} {l : List Nat} (ha : Ev ta G W (dN c)) (hb : Ev tb G W (dNs l)) : Ev (tOp (rIn K true) ta tb) G W (dB (!l.contains c)) := ev_inN (neg := true) ha hb
theorem dL_mm {α β : Type} {f : β → Dsc} {g : α → β} {l : List α} : dL ((l.map g).map f) = dL (l.map fun a => f (g a)) := by rw [List.map_map]; rfl
theorem cut_all {α : Type} (f : α → Dsc) (l : List α) (i j : Nat) : cutD (l.map f) (some (i : Int)) (some (j : Int)) = ((l.drop i).take (j - i)).map f := by
  unfold cutD
  rw [HT.sIx_nat, HT.sIx_nat, List.length_map, ← List.map_drop, ← List.map_take]
  congr 1
  by_cases h : i ≤ l.length
  · rw [Nat.min_eq_left h]
    by_cases h2 : j ≤ l.length
    · rw [Nat.min_eq_left h2]
    · rw [Nat.min_eq_right (by omega), List.take_of_length_le (by rw [List.length_drop]; omega), List.take_of_length_le (by rw [List.length_drop]; omega)]
  · rw [Nat.min_eq_right (a := i) (by omega), List.drop_eq_nil_of_le (Nat.le_refl _), List.drop_eq_nil_of_le (by omega), List.take_nil, List.take_nil]
theorem cut_from {α : Type} (f : α → Dsc) (l : List α) (i : Nat) : cutD (l.map f) (some (i : Int)) none = (l.drop i).map f := by
  have h := cut_all f l i l.length
  have e : HT.sIx (l.map f).length (l.map f).length (some (l.length : Int)) = HT.sIx (l.map f).length (l.map f).length none := by rw [HT.sIx_nat, HT.sIx_none, List.length_map, Nat.min_self]
  unfold cutD at h ⊢
  rw [e] at h
  rw [h, List.take_of_length_le (by rw [List.length_drop]; omega)]
theorem cut_to {α : Type} (f : α → Dsc) (l : List α) (j : Nat) : cutD (l.map f) none (some (j : Int)) = (l.take j).map f := by
  have h := cut_all f l 0 j
  have e : HT.sIx (l.map f).length 0 (some ((0 : Nat) : Int)) = HT.sIx (l.map f).length 0 none := by rw [HT.sIx_nat, HT.sIx_none, Nat.zero_min]
  unfold cutD at h ⊢
  rw [e] at h
  rw [h]
  rfl
def sp_are_between (K : PySem.W.Frag) : Sp := spOf (fun a : List Int × Int × Int => a.1.length ≤ 100000) (fun a => [dIs a.1, dI a.2.1, dI a.2.2]) (fun a => dB (a.1.all fun n => Vbndao.inRange n a.2.1 a.2.2))
/-! are_between -/
def N_are_between : List Str := ["numbers", "least", "most", "number"]
theorem sc_are_between : FnScope ["numbers", "least", "most", "number"] ["numbers", "least", "most"] (defScope s_are_between) := ⟨rfl, rfl, rfl, by decide +kernel, rfl, by decide +kernel, by decide +kernel⟩
theorem nm_are_between : nmB ["numbers", "least", "most", "number"] (defScope s_are_between) [0] [] ["all"] = true := by decide +kernel
def t_are_between (K : PySem.W.Frag) : TS := tRet (tCB (rAll K) (tCons (tLc (iList K (tVar 0)) (gName 3) (tYes) (tChain oLe oLe (tVar 1) (tVar 3) (tVar 2)) [3]) (tNil)))
theorem dv_are_between {X : Cx} (o0 : On fa X ["numbers", "least", "most", "number"] (defScope s_are_between)) (hf : ∀ x, X.fn x = true) : PSs X (defBody s_are_between) (t_are_between X.K) := by
  have n0 := nm_are_between
  exact pss_one (ps_ret (acb o0 n0 (cr_all o0.calm) (by decide +kernel) (pa_cons (pe_lc (own := [("number", 3)]) o0.calm o0.nd (pi_list (av o0 n0 0 (gm 0 rfl) rfl)) (o0.ok (own := [("number", 3)]) (by decide +kernel)) (fun s1 H1 C1 l1 p1 => let o1 := o0.blk s1 H1 _ C1 l1 p1; agb o1 3 rfl (by decide +kernel)) (fun _ _ _ _ _ => pts_nil) (fun s1 H1 C1 l1 p1 => (fun (n1 : nmB _ (relS _ _) [1, 3, 2] [] [] = true) => let o1 := o0.blk s1 H1 _ C1 l1 p1; pe_chain op_le op_le (av o1 n1 1 (gm 0 rfl) rfl) (av o1 n1 3 (gm 1 rfl) rfl) (av o1 n1 2 (gm 2 rfl) rfl)) (by decide +kernel))) (pa_nil)) (gm 0 rfl) f_all))
theorem ev_are_between (C : Ctx K mg) : ∀ a : List Int × Int × Int, a.1.length ≤ 100000 → ∀ W, Rt (t_are_between K) (envOf ["numbers", "least", "most", "number"] [dIs a.1, dI a.2.1, dI a.2.2]) W (rD (dB (a.1.all fun n => Vbndao.inRange n a.2.1 a.2.2))) := fun ⟨l, lo, hi⟩ h W => by
  dsimp only at h ⊢
  refine rt_ret ((ev_all (bs := l.map fun n => Vbndao.inRange n lo hi) ((EvO.ev (evO_lcm l dI (fun n => dB (Vbndao.inRange n lo hi)) (fun c G => G.set 3 (some (.pl (dI c)))) [3] (ei_list ev_var) (fun _ _ => tg_name) (fun c _ => ev_chain rfl rfl ev_var ev_var ev_var) (fun j h => h) (szl h))).to ?_)).to ?_)
  · rw [List.map_map]; rfl
  · rw [List.all_map]; rfl
theorem ok_are_between {P : Program} {w : World} {K : PySem.W.Frag} {mg : Str → Option Value} {base : Heap} (C : Ctx K mg) : Ok P w K mg base 1 "are_between" ["numbers", "least", "most"] (sp_are_between K) :=
  ok_gen C 0 rfl rfl sc_are_between fg_are_between (fun _ _ _ _ _ _ hr o => dv_are_between o (fun _ => rfl)) (fun _ _ _ _ _ _ us hl => match us, hl with | [_, _, _], _ => rfl) (len_of fun _ => rfl) fun _ _ _ _ h => reads_of (ev_are_between C) h
def rowM (row : List Int) (many : Nat) (lo hi : Int) : Bool := decide (row.length ≤ many) && row.all fun n => Vbndao.inRange n lo hi
def sp_is_row_within (K : PySem.W.Frag) : Sp := spOf (fun a : List Int × Nat × Int × Int => a.1.length ≤ 100000) (fun a => [dIs a.1, dN a.2.1, dI a.2.2.1, dI a.2.2.2]) (fun a => dB (rowM a.1 a.2.1 a.2.2.1 a.2.2.2))
/-! is_row_within -/
def N_is_row_within : List Str := ["row", "many", "least", "most"]
theorem sc_is_row_within : FnScope ["row", "many", "least", "most"] ["row", "many", "least", "most"] (defScope s_is_row_within) := ⟨rfl, rfl, rfl, by decide +kernel, rfl, by decide +kernel, by decide +kernel⟩
theorem nm_is_row_within : nmB ["row", "many", "least", "most"] (defScope s_is_row_within) [0, 1, 2, 3] [] ["len", "are_between"] = true := by decide +kernel
def t_is_row_within (K : PySem.W.Frag) : TS := tRet (tAndV (tOp oLe (tCB (cLen K) (tCons (tVar 0) (tNil))) (tVar 1)) (tCall (sp_are_between K) [] E0 (tCons (tVar 0) (tCons (tVar 2) (tCons (tVar 3) (tNil))))))
theorem dv_is_row_within {X : Cx} (o0 : On fa X ["row", "many", "least", "most"] (defScope s_is_row_within)) (hf : ∀ x, X.fn x = true) (c_are_between : Cal X "are_between" (sp_are_between X.K)) : PSs X (defBody s_is_row_within) (t_is_row_within X.K) := by
  have n0 := nm_is_row_within
  exact pss_one (ps_ret (pe_and (pe_cmpR op_le (acb o0 n0 call_len_seq (by decide +kernel) (pa_cons (av o0 n0 0 (gm 0 rfl) rfl) (pa_nil)) (gm 0 rfl) f_len) (av o0 n0 1 (gm 1 rfl) rfl) (nomark _)) (pe_one (acall o0 n0 c_are_between (pa_cons (av o0 n0 0 (gm 0 rfl) rfl) (pa_cons (av o0 n0 2 (gm 2 rfl) rfl) (pa_cons (av o0 n0 3 (gm 3 rfl) rfl) (pa_nil)))) (gm 1 rfl)))))
theorem ev_is_row_within (C : Ctx K mg) : ∀ a : List Int × Nat × Int × Int, a.1.length ≤ 100000 → ∀ W, Rt (t_is_row_within K) (envOf ["row", "many", "least", "most"] [dIs a.1, dN a.2.1, dI a.2.2.1, dI a.2.2.2]) W (rD (dB (rowM a.1 a.2.1 a.2.2.1 a.2.2.2))) := fun ⟨l, m, lo, hi⟩ h W => by
  dsimp only at h ⊢
  exact rt_ret (ev_and ((ev_I0 (ev_lenM (f := dI) ev_var) ev_var).to (congrArg dB (decide_eq_decide.mpr Int.ofNat_le))) fun _ => ev_call (l, lo, hi) h (ea_cons ev_var (ea_cons ev_var (ea_cons ev_var ea_nil))))
theorem ok_is_row_within {P : Program} {w : World} {K : PySem.W.Frag} {mg : Str → Option Value} {base : Heap} (C : Ctx K mg) : Ok P w K mg base 2 "is_row_within" ["row", "many", "least", "most"] (sp_is_row_within K) :=
  ok_gen C 1 rfl rfl sc_is_row_within fg_is_row_within (fun _ _ _ _ _ _ hr o => dv_is_row_within o (fun _ => rfl) ((ok_are_between C).cal hr (by decide))) (fun _ _ _ _ _ _ us hl => match us, hl with | [_, _, _, _], _ => rfl) (len_of fun _ => rfl) fun _ _ _ _ h => reads_of (ev_is_row_within C) h
def sp_is_side (K : PySem.W.Frag) : Sp := spOf (fun _ : Int => True) (fun a => [dI a]) (fun a => dB (Vbndao.inRange a 0 1))
/-! is_side -/
def N_is_side : List Str := ["number"]
theorem sc_is_side : FnScope ["number"] ["number"] (defScope s_is_side) := ⟨rfl, rfl, rfl, by decide +kernel, rfl, by decide +kernel, by decide +kernel⟩
theorem nm_is_side : nmB ["number"] (defScope s_is_side) [0] [] [] = true := by decide +kernel
def t_is_side (K : PySem.W.Frag) : TS := tRet (tChain oLe oLe (tC (.int 0)) (tVar 0) (tC (.int 1)))
theorem dv_is_side {X : Cx} (o0 : On fa X ["number"] (defScope s_is_side)) (hf : ∀ x, X.fn x = true) : PSs X (defBody s_is_side) (t_is_side X.K) := by
  have n0 := nm_is_side
  exact pss_one (ps_ret (pe_chain op_le op_le (pe_int) (av o0 n0 0 (gm 0 rfl) rfl) (pe_int)))
theorem ev_is_side (C : Ctx K mg) : ∀ a : Int, True → ∀ W, Rt (t_is_side K) (envOf ["number"] [dI a]) W (rD (dB (Vbndao.inRange a 0 1))) := fun n _ W => rt_ret (ev_chain rfl rfl ev_c ev_var ev_c)
theorem ok_is_side {P : Program} {w : World} {K : PySem.W.Frag} {mg : Str → Option Value} {base : Heap} (C : Ctx K mg) : Ok P w K mg base 1 "is_side" ["number"] (sp_is_side K) :=
  ok_gen C 2 rfl rfl sc_is_side fg_is_side (fun _ _ _ _ _ _ hr o => dv_is_side o (fun _ => rfl)) (fun _ _ _ _ _ _ us hl => match us, hl with | [_], _ => rfl) (len_of fun _ => rfl) fun _ _ _ _ h => reads_of (ev_is_side C) h
def withinM (op : Int) (ns row : List Int) : Bool :=
  if [0, 1].contains op = true then rowM row 2000 0 255
  else if [3, 15].contains op = true then ns.all fun n => Vbndao.inRange n 1 63
  else if op = 4 then ns.all fun n => Vbndao.inRange n 0 12
  else if op = 11 then Vbndao.inRange (ns.getD 0 0) 0 1 && rowM row 20 1 63
  else if op = 12 then Vbndao.inRange (ns.getD 0 0) 0 1 && Vbndao.inRange (ns.getD 1 0) 0 10000
  else if op = 13 then Vbndao.inRange (ns.getD 0 0) 0 1 && rowM row 20 0 20
  else true
abbrev ACall := Int × List Int × List Int
abbrev callOk (a : ACall) : Prop := a.2.2.length ≤ 100000 ∧ a.2.1.length ≤ 2 ∧ (a.1 = 11 ∨ a.1 = 13 → 1 ≤ a.2.1.length) ∧ (a.1 = 12 ∨ a.1 = 15 → 2 ≤ a.2.1.length) ∧ (a.1 = 3 ∨ a.1 = 4 → 1 ≤ a.2.1.length)
def sp_is_within (K : PySem.W.Frag) : Sp := spOf callOk (fun a => [dI a.1, dIs a.2.1, dIs a.2.2]) (fun a => dB (withinM a.1 a.2.1 a.2.2))
/-! is_within -/
def N_is_within : List Str := ["operation", "numbers", "row"]
theorem sc_is_within : FnScope ["operation", "numbers", "row"] ["operation", "numbers", "row"] (defScope s_is_within) := ⟨rfl, rfl, rfl, by decide +kernel, rfl, by decide +kernel, by decide +kernel⟩
theorem nm_is_within : nmB ["operation", "numbers", "row"] (defScope s_is_within) [0, 2, 1] [] ["MOST_BYTES", "MOST_BYTE", "is_row_within", "MOST_CARD", "are_between", "MOST_PLAYED", "is_side", "MOST_CARDS_limits", "MOST_POINTS_limits", "MOST_CHOICE"] = true := by decide +kernel
def t_is_within (K : PySem.W.Frag) : TS := tSeq (tIfS (tTest (tOp (rIn K false) (tVar 0) (tTup (tCons (tC (.int 0)) (tCons (tC (.int 1)) (tNil)))))) (tRet (tCall (sp_is_row_within K) [] E0 (tCons (tVar 2) (tCons (tC (.int (2000))) (tCons (tC (.int 0)) (tCons (tC (.int (255))) (tNil))))))) (tNext)) (tSeq (tIfS (tTest (tOp (rIn K false) (tVar 0) (tTup (tCons (tC (.int 3)) (tCons (tC (.int 15)) (tNil)))))) (tRet (tCall (sp_are_between K) [] E0 (tCons (tVar 1) (tCons (tC (.int 1)) (tCons (tC (.int (63))) (tNil)))))) (tNext)) (tSeq (tIfS (tTest (tOp rEq (tVar 0) (tC (.int 4)))) (tRet (tCall (sp_are_between K) [] E0 (tCons (tVar 1) (tCons (tC (.int 0)) (tCons (tC (.int (12))) (tNil)))))) (tNext)) (tSeq (tIfS (tTest (tOp rEq (tVar 0) (tC (.int 11)))) (tRet (tAndV (tCall (sp_is_side K) [] E0 (tCons (tOp (rIxL K) (tVar 1) (tC (.int 0))) (tNil))) (tCall (sp_is_row_within K) [] E0 (tCons (tVar 2) (tCons (tC (.int (20))) (tCons (tC (.int 1)) (tCons (tC (.int (63))) (tNil)))))))) (tNext)) (tSeq (tIfS (tTest (tOp rEq (tVar 0) (tC (.int 12)))) (tRet (tAndV (tCall (sp_is_side K) [] E0 (tCons (tOp (rIxL K) (tVar 1) (tC (.int 0))) (tNil))) (tChain oLe oLe (tC (.int 0)) (tOp (rIxL K) (tVar 1) (tC (.int 1))) (tC (.int (10000)))))) (tNext)) (tSeq (tIfS (tTest (tOp rEq (tVar 0) (tC (.int 13)))) (tRet (tAndV (tCall (sp_is_side K) [] E0 (tCons (tOp (rIxL K) (tVar 1) (tC (.int 0))) (tNil))) (tCall (sp_is_row_within K) [] E0 (tCons (tVar 2) (tCons (tC (.int (20))) (tCons (tC (.int 0)) (tCons (tC (.int (20))) (tNil)))))))) (tNext)) (tRet (tC (.bl true))))))))
theorem dv_is_within {X : Cx} (o0 : On fa X ["operation", "numbers", "row"] (defScope s_is_within)) (hf : ∀ x, X.fn x = true) (c_is_row_within : Cal X "is_row_within" (sp_is_row_within X.K)) (c_are_between : Cal X "are_between" (sp_are_between X.K)) (c_is_side : Cal X "is_side" (sp_is_side X.K)) : PSs X (defBody s_is_within) (t_is_within X.K) := by
  have n0 := nm_is_within
  exact pss_cons (ps_if (pt_cmpR op_in_seq (av o0 n0 0 (gm 0 rfl) rfl) (pe_tup (pa_cons (pe_int) (pa_cons (pe_int) (pa_nil)))) (by with_unfolding_all rfl)) (pss_one (ps_ret (acall o0 n0 c_is_row_within (pa_cons (av o0 n0 2 (gm 1 rfl) rfl) (pa_cons (agi o0 n0 (gm 0 rfl) f_MOST_BYTES) (pa_cons (pe_int) (pa_cons (agi o0 n0 (gm 1 rfl) f_MOST_BYTE) (pa_nil))))) (gm 2 rfl)))) (pss_nil)) (pss_cons (ps_if (pt_cmpR op_in_seq (av o0 n0 0 (gm 0 rfl) rfl) (pe_tup (pa_cons (pe_int) (pa_cons (pe_int) (pa_nil)))) (by with_unfolding_all rfl)) (pss_one (ps_ret (acall o0 n0 c_are_between (pa_cons (av o0 n0 1 (gm 2 rfl) rfl) (pa_cons (pe_int) (pa_cons (agi o0 n0 (gm 3 rfl) f_MOST_CARD) (pa_nil)))) (gm 4 rfl)))) (pss_nil)) (pss_cons (ps_if (pt_cmpR op_eq (av o0 n0 0 (gm 0 rfl) rfl) (pe_int) (nomark _)) (pss_one (ps_ret (acall o0 n0 c_are_between (pa_cons (av o0 n0 1 (gm 2 rfl) rfl) (pa_cons (pe_int) (pa_cons (agi o0 n0 (gm 5 rfl) f_MOST_PLAYED) (pa_nil)))) (gm 4 rfl)))) (pss_nil)) (pss_cons (ps_if (pt_cmpR op_eq (av o0 n0 0 (gm 0 rfl) rfl) (pe_int) (nomark _)) (pss_one (ps_ret (pe_and (acall o0 n0 c_is_side (pa_cons (pe_ix ix_list (av o0 n0 1 (gm 2 rfl) rfl) (pe_int) (fun _ _ => rfl)) (pa_nil)) (gm 6 rfl)) (pe_one (acall o0 n0 c_is_row_within (pa_cons (av o0 n0 2 (gm 1 rfl) rfl) (pa_cons (agi o0 n0 (gm 7 rfl) f_MOST_CARDS_limits) (pa_cons (pe_int) (pa_cons (agi o0 n0 (gm 3 rfl) f_MOST_CARD) (pa_nil))))) (gm 2 rfl)))))) (pss_nil)) (pss_cons (ps_if (pt_cmpR op_eq (av o0 n0 0 (gm 0 rfl) rfl) (pe_int) (nomark _)) (pss_one (ps_ret (pe_and (acall o0 n0 c_is_side (pa_cons (pe_ix ix_list (av o0 n0 1 (gm 2 rfl) rfl) (pe_int) (fun _ _ => rfl)) (pa_nil)) (gm 6 rfl)) (pe_one (pe_chain op_le op_le (pe_int) (pe_ix ix_list (av o0 n0 1 (gm 2 rfl) rfl) (pe_int) (fun _ _ => rfl)) (agi o0 n0 (gm 8 rfl) f_MOST_POINTS_limits)))))) (pss_nil)) (pss_cons (ps_if (pt_cmpR op_eq (av o0 n0 0 (gm 0 rfl) rfl) (pe_int) (nomark _)) (pss_one (ps_ret (pe_and (acall o0 n0 c_is_side (pa_cons (pe_ix ix_list (av o0 n0 1 (gm 2 rfl) rfl) (pe_int) (fun _ _ => rfl)) (pa_nil)) (gm 6 rfl)) (pe_one (acall o0 n0 c_is_row_within (pa_cons (av o0 n0 2 (gm 1 rfl) rfl) (pa_cons (agi o0 n0 (gm 7 rfl) f_MOST_CARDS_limits) (pa_cons (pe_int) (pa_cons (agi o0 n0 (gm 9 rfl) f_MOST_CHOICE) (pa_nil))))) (gm 2 rfl)))))) (pss_nil)) (pss_one (ps_ret (pe_bl))))))))
theorem ev_is_within (C : Ctx K mg) : ∀ a : ACall, callOk a → ∀ W, Rt (t_is_within K) (envOf ["operation", "numbers", "row"] [dI a.1, dIs a.2.1, dIs a.2.2]) W (rD (dB (withinM a.1 a.2.1 a.2.2))) := fun ⟨op, ns, row⟩ ⟨h1, h2, h3, h4, h5⟩ W => by
  dsimp only at h1 h2 h3 h4 h5 ⊢
  have hn : ns.length ≤ 100000 := by omega
  unfold withinM
  refine rt_ifR (et_test (ev_isC [0, 1] ev_var (ev_tup (ea_cons ev_c (ea_cons ev_c ea_nil))))) (fun e => ?_) fun e => ?_
  · rw [if_pos e]
    exact rt_ret (ev_call (row, 2000, 0, 255) h1 (ea_cons ev_var (ea_cons ev_c (ea_cons ev_c (ea_cons ev_c ea_nil)))))
  rw [if_neg (by rw [show [0, 1].contains op = false from e]; decide)]
  clear e
  refine rt_ifR (et_test (ev_isC [3, 15] ev_var (ev_tup (ea_cons ev_c (ea_cons ev_c ea_nil))))) (fun e => ?_) fun e => ?_
  · rw [if_pos e]
    exact rt_ret (ev_call (ns, 1, 63) hn (ea_cons ev_var (ea_cons ev_c (ea_cons ev_c ea_nil))))
  rw [if_neg (by rw [show [3, 15].contains op = false from e]; decide)]
  clear e
  refine rt_ifR (et_test (ev_eqI ev_var ev_c)) (fun e => ?_) fun e => ?_
  · rw [if_pos (of_decide_eq_true e)]
    exact rt_ret (ev_call (ns, 0, 12) hn (ea_cons ev_var (ea_cons ev_c (ea_cons ev_c ea_nil))))
  rw [if_neg (of_decide_eq_false e)]
  clear e
  refine rt_ifR (et_test (ev_eqI ev_var ev_c)) (fun e => ?_) fun e => ?_
  · rw [if_pos (of_decide_eq_true e)]
    exact rt_ret (ev_and (ev_call (ns.getD 0 0) trivial (ea_cons (ev_ixL (j := 0) ev_var ev_c (ints_at (h3 (.inl (of_decide_eq_true e))))) ea_nil)) fun _ => ev_call (row, 20, 1, 63) h1 (ea_cons ev_var (ea_cons ev_c (ea_cons ev_c (ea_cons ev_c ea_nil)))))
  rw [if_neg (of_decide_eq_false e)]
  clear e
  refine rt_ifR (et_test (ev_eqI ev_var ev_c)) (fun e => ?_) fun e => ?_
  · rw [if_pos (of_decide_eq_true e)]
    have h4 := h4 (.inl (of_decide_eq_true e))
    exact rt_ret (ev_and (ev_call (ns.getD 0 0) trivial (ea_cons (ev_ixL (j := 0) ev_var ev_c (ints_at (by omega))) ea_nil)) fun _ => ev_chain rfl rfl ev_c (ev_ixL (j := 1) ev_var ev_c (ints_at (by omega))) ev_c)
  rw [if_neg (of_decide_eq_false e)]
  clear e
  refine rt_ifR (et_test (ev_eqI ev_var ev_c)) (fun e => ?_) fun e => ?_
  · rw [if_pos (of_decide_eq_true e)]
    exact rt_ret (ev_and (ev_call (ns.getD 0 0) trivial (ea_cons (ev_ixL (j := 0) ev_var ev_c (ints_at (h3 (.inr (of_decide_eq_true e))))) ea_nil)) fun _ => ev_call (row, 20, 0, 20) h1 (ea_cons ev_var (ea_cons ev_c (ea_cons ev_c (ea_cons ev_c ea_nil)))))
  rw [if_neg (of_decide_eq_false e)]
  exact rt_ret ev_c
theorem ok_is_within {P : Program} {w : World} {K : PySem.W.Frag} {mg : Str → Option Value} {base : Heap} (C : Ctx K mg) : Ok P w K mg base 3 "is_within" ["operation", "numbers", "row"] (sp_is_within K) :=
  ok_gen C 3 rfl rfl sc_is_within fg_is_within (fun _ _ _ _ _ _ hr o => dv_is_within o (fun _ => rfl) ((ok_is_row_within C).cal hr (by decide)) ((ok_are_between C).cal hr (by decide)) ((ok_is_side C).cal hr (by decide))) (fun _ _ _ _ _ _ us hl => match us, hl with | [_, _, _], _ => rfl) (len_of fun _ => rfl) fun _ _ _ _ h => reads_of (ev_is_within C) h
def sp_line_ends (K : PySem.W.Frag) : Sp := spOf (fun a : List Nat => a.length ≤ 50000) (fun a => [dNs a]) (fun a => dNs (endsOf a))
/-! line_ends -/
def N_line_ends : List Str := ["text", "place", "sign"]
theorem sc_line_ends : FnScope ["text", "place", "sign"] ["text"] (defScope s_line_ends) := ⟨rfl, rfl, rfl, by decide +kernel, rfl, by decide +kernel, by decide +kernel⟩
theorem nm_line_ends : nmB ["text", "place", "sign"] (defScope s_line_ends) [0] [] ["enumerate", "len"] = true := by decide +kernel
def t_line_ends (K : PySem.W.Frag) : TS := tRet (tOp rCat (tLc (iEnum K (tCons (tVar 0) (tNil))) (gTup K 2 (gCons (gName 1) (gCons (gName 2) (gNil)))) (tTest (tOp rEq (tVar 2) (tC (.int (10))))) (tVar 1) [1, 2]) (tLst (tCons (tCB (cLen K) (tCons (tVar 0) (tNil))) (tNil))))
theorem dv_line_ends {X : Cx} (o0 : On fa X ["text", "place", "sign"] (defScope s_line_ends)) (hf : ∀ x, X.fn x = true) : PSs X (defBody s_line_ends) (t_line_ends X.K) := by
  have n0 := nm_line_ends
  exact pss_one (ps_ret (pe_op op_cat (pe_lc (own := [("place", 1), ("sign", 2)]) o0.calm o0.nd (pi_enum (o0.gl n0 (gm 0 rfl)) (o0.gb.free f_enumerate) (pa_cons (av o0 n0 0 (gm 0 rfl) rfl) (pa_nil))) (o0.ok (own := [("place", 1), ("sign", 2)]) (by decide +kernel)) (fun s1 H1 C1 l1 p1 => let o1 := o0.blk s1 H1 _ C1 l1 p1; pg_tup o1.calm (pgs_cons (agb o1 1 rfl (by decide +kernel)) (pgs_cons (agb o1 2 rfl (by decide +kernel)) (pgs_nil)))) (fun s1 H1 C1 l1 p1 => (fun (n1 : nmB _ (relS _ _) [2, 1] [] ["NEWLINE"] = true) => let o1 := o0.blk s1 H1 _ C1 l1 p1; pts_one (pt_cmpR op_eq (av o1 n1 2 (gm 0 rfl) rfl) (agi o1 n1 (gm 0 rfl) f_NEWLINE) (nomark _))) (by decide +kernel)) (fun s1 H1 C1 l1 p1 => (fun (n1 : nmB _ (relS _ _) [2, 1] [] ["NEWLINE"] = true) => let o1 := o0.blk s1 H1 _ C1 l1 p1; av o1 n1 1 (gm 1 rfl) rfl) (by decide +kernel))) (pe_lst (pa_cons (acb o0 n0 call_len_seq (by decide +kernel) (pa_cons (av o0 n0 0 (gm 0 rfl) rfl) (pa_nil)) (gm 1 rfl) f_len) (pa_nil)))))
theorem ei_enumN {G : En} {W : Wd} {te : TE} {α : Type} {f : α → Dsc} {l : List α} (z : α) (h : Ev te G W (dL (l.map f))) : EvI (iEnum K (tCons te tNil)) G W ((List.range l.length).map fun i => dT K [dN i, f (l.getD i z)]) := by
  have h := ei_enum (K := K) h
  unfold enumD at h
  rw [List.length_map] at h
  rw [show ((List.range l.length).map fun (i : Nat) => dT K [dI (i : Int), ((l.map f)[i]?).getD (dV .non)]) = (List.range l.length).map fun i => dT K [dN i, f (l.getD i z)] from List.map_congr_left fun j hj => by
    rw [List.getElem?_map, List.getD_eq_getElem?_getD, List.getElem?_eq_getElem (List.mem_range.mp hj)]
    rfl] at h
  exact h
theorem filt_len (l : List Nat) (p : Nat → Bool) {n : Nat} (h : l.length ≤ n) : (l.filter p).length ≤ n := Nat.le_trans (List.length_filter_le _ _) h
theorem ev_line_ends (C : Ctx K mg) : ∀ a : List Nat, a.length ≤ 50000 → ∀ W, Rt (t_line_ends K) (envOf ["text", "place", "sign"] [dNs a]) W (rD (dNs (endsOf a))) := fun t h W => by
  refine rt_frz (rt_retO (EvO.to (evO_cat (EvO.ev (evO_lc (List.range t.length) (fun i => dT K [dN i, dN (t.getD i 0)]) (fun i => t.getD i 0 == 10) dN (fun i G => (G.set 1 (some (.pl (dN i)))).set 2 (some (.pl (dN (t.getD i 0))))) [1, 2] (ei_enumN 0 ev_var) (fun _ _ => tg_tup (tgs_cons tg_name (tgs_cons tg_name tgs_nil)))
    (fun i _ => (et_test (ev_eqI ev_var ev_c)).to ?_) (fun i _ _ => ev_var) (fun j h => h) (szl (by rw [List.length_range]; omega)))) (EvO.ev (evO_lst (ea_cons (ev_lenM ev_var) ea_nil))) ?_) ?_))
  · rw [Bool.eq_iff_iff, decide_eq_true_eq, beq_iff_eq]
    omega
  · rw [List.length_map]
    refine szk ?_
    have := filt_len (List.range t.length) (fun i => t.getD i 0 == 10) (Nat.le_of_eq List.length_range)
    show ((List.range t.length).filter fun i => t.getD i 0 == 10).length + 1 ≤ 100000
    omega
  · unfold endsOf
    rw [List.map_append]
    rfl
theorem ok_line_ends {P : Program} {w : World} {K : PySem.W.Frag} {mg : Str → Option Value} {base : Heap} (C : Ctx K mg) : Ok P w K mg base 1 "line_ends" ["text"] (sp_line_ends K) :=
  ok_gen C 4 rfl rfl sc_line_ends fg_line_ends (fun _ _ _ _ _ _ hr o => dv_line_ends o (fun _ => rfl)) (fun _ _ _ _ _ _ us hl => match us, hl with | [_], _ => rfl) (len_of fun _ => rfl) fun _ _ _ _ h => reads_of (ev_line_ends C) h
def sp_is_word_start (K : PySem.W.Frag) : Sp := spOf (fun a : List Nat × Nat × Nat => a.2.1 < a.1.length ∧ a.2.2 ≤ a.2.1) (fun a => [dNs a.1, dN a.2.1, dN a.2.2]) (fun a => dB (startB a.1 a.2.1 a.2.2))
/-! is_word_start -/
def N_is_word_start : List Str := ["text", "place", "start"]
theorem sc_is_word_start : FnScope ["text", "place", "start"] ["text", "place", "start"] (defScope s_is_word_start) := ⟨rfl, rfl, rfl, by decide +kernel, rfl, by decide +kernel, by decide +kernel⟩
theorem nm_is_word_start : nmB ["text", "place", "start"] (defScope s_is_word_start) [0, 1, 2] [] ["SPACE"] = true := by decide +kernel
def t_is_word_start (K : PySem.W.Frag) : TS := tRet (tAndV (tOp rNe (tOp (rIxL K) (tVar 0) (tVar 1)) (tC (.int (32)))) (tOrV (tOp rEq (tVar 1) (tVar 2)) (tOp rEq (tOp (rIxL K) (tVar 0) (tOp oSub (tVar 1) (tC (.int 1)))) (tC (.int (32))))))
theorem dv_is_word_start {X : Cx} (o0 : On fa X ["text", "place", "start"] (defScope s_is_word_start)) (hf : ∀ x, X.fn x = true) : PSs X (defBody s_is_word_start) (t_is_word_start X.K) := by
  have n0 := nm_is_word_start
  exact pss_one (ps_ret (pe_and (pe_cmpR op_ne (pe_ix ix_list (av o0 n0 0 (gm 0 rfl) rfl) (av o0 n0 1 (gm 1 rfl) rfl) (fun _ _ => rfl)) (agi o0 n0 (gm 0 rfl) f_SPACE) (nomark _)) (pe_one (pe_or (pe_cmpR op_eq (av o0 n0 1 (gm 1 rfl) rfl) (av o0 n0 2 (gm 2 rfl) rfl) (nomark _)) (pe_one (pe_cmpR op_eq (pe_ix ix_list (av o0 n0 0 (gm 0 rfl) rfl) (pe_op op_sub (av o0 n0 1 (gm 1 rfl) rfl) (pe_int)) (fun _ _ => rfl)) (agi o0 n0 (gm 0 rfl) f_SPACE) (nomark _)))))))
theorem ev_is_word_start (C : Ctx K mg) : ∀ a : List Nat × Nat × Nat, (a.2.1 < a.1.length ∧ a.2.2 ≤ a.2.1) → ∀ W, Rt (t_is_word_start K) (envOf ["text", "place", "start"] [dNs a.1, dN a.2.1, dN a.2.2]) W (rD (dB (startB a.1 a.2.1 a.2.2))) := fun ⟨t, p, s⟩ ⟨h1, h2⟩ W => by
  dsimp only at h1 h2 ⊢
  unfold startB
  have c1 : ∀ n : Nat, decide ((n : Int) = 32) = (n == 32) := fun n => by
    rw [Bool.eq_iff_iff, decide_eq_true_eq, beq_iff_eq]
    omega
  refine rt_ret (ev_and ((ev_neI (ev_ixL (j := p) ev_var ev_var (nats_at h1)) ev_c).to (by rw [c1]; rfl)) fun _ => ev_or ((ev_eqI ev_var ev_var).to ?_) fun e => (ev_eqI (ev_ixL (j := p - 1) ev_var ((ev_I0 ev_var ev_c).to ?_) (nats_at (by omega))) ev_c).to (by rw [c1]))
  · congr 1
    rw [Bool.eq_iff_iff, decide_eq_true_eq, beq_iff_eq]
    omega
  · rw [beq_eq_false_iff_ne] at e
    exact congrArg dI (by omega)
theorem ok_is_word_start {P : Program} {w : World} {K : PySem.W.Frag} {mg : Str → Option Value} {base : Heap} (C : Ctx K mg) : Ok P w K mg base 1 "is_word_start" ["text", "place", "start"] (sp_is_word_start K) :=
  ok_gen C 5 rfl rfl sc_is_word_start fg_is_word_start (fun _ _ _ _ _ _ hr o => dv_is_word_start o (fun _ => rfl)) (fun _ _ _ _ _ _ us hl => match us, hl with | [_, _, _], _ => rfl) (len_of fun _ => rfl) fun _ _ _ _ h => reads_of (ev_is_word_start C) h
def sp_word_end (K : PySem.W.Frag) : Sp := spOf (fun a : List Nat × Nat × Nat => a.2.1 ≤ a.2.2 ∧ a.2.2 ≤ a.1.length ∧ a.1.length ≤ 100000) (fun a => [dNs a.1, dN a.2.1, dN a.2.2]) (fun a => dN (a.2.1 + (wordAt a.1 a.2.1 a.2.2).length))
/-! word_end -/
def N_word_end : List Str := ["text", "place", "end", "behind"]
theorem sc_word_end : FnScope ["text", "place", "end", "behind"] ["text", "place", "end"] (defScope s_word_end) := ⟨rfl, rfl, rfl, by decide +kernel, rfl, by decide +kernel, by decide +kernel⟩
theorem nm_word_end : nmB ["text", "place", "end", "behind"] (defScope s_word_end) [1, 2, 0, 3] [3] ["range", "SPACE"] = true := by decide +kernel
def t_word_end (K : PySem.W.Frag) : TS := tSeq (tFor (iRng2 (tCons (tVar 1) (tCons (tVar 2) (tNil)))) (gName 3) (tIfS (tTest (tOp rEq (tOp (rIxL K) (tVar 0) (tVar 3)) (tC (.int (32))))) (tRet (tVar 3)) (tNext))) (tRet (tVar 2))
theorem dv_word_end {X : Cx} (o0 : On fa X ["text", "place", "end", "behind"] (defScope s_word_end)) (hf : ∀ x, X.fn x = true) : PSs X (defBody s_word_end) (t_word_end X.K) := by
  have n0 := nm_word_end
  exact pss_cons (ps_for o0.nev o0.calm (pi_range2 (o0.gl n0 (gm 0 rfl)) (o0.gb.free f_range) (pa_cons (av o0 n0 1 (gm 0 rfl) rfl) (pa_cons (av o0 n0 2 (gm 1 rfl) rfl) (pa_nil)))) (ag o0 n0 hf 3 (gm 0 rfl) rfl) (pss_one (ps_if (pt_cmpR op_eq (pe_ix ix_list (av o0 n0 0 (gm 2 rfl) rfl) (av o0 n0 3 (gm 3 rfl) rfl) (fun _ _ => rfl)) (agi o0 n0 (gm 1 rfl) f_SPACE) (nomark _)) (pss_one (ps_ret (av o0 n0 3 (gm 3 rfl) rfl))) (pss_nil)))) (pss_one (ps_ret (av o0 n0 2 (gm 1 rfl) rfl)))
theorem ei_rangeP {G : En} {W : Wd} {i j : Nat} {te tb : TE} (h : Ev te G W (dN i)) (hb : Ev tb G W (dN j)) (hi : i ≤ 100000) (hj : j ≤ 100000) : EvI (iRng2 (tCons te (tCons tb tNil))) G W ((List.range (j - i)).map fun (k : Nat) => dN (i + k)) :=
  ei_range2 h hb (Nat.lt_of_le_of_lt hi (by decide)) (Nat.lt_of_le_of_lt hj (by decide))
theorem ev_word_end (C : Ctx K mg) : ∀ a : List Nat × Nat × Nat, (a.2.1 ≤ a.2.2 ∧ a.2.2 ≤ a.1.length ∧ a.1.length ≤ 100000) → ∀ W, Rt (t_word_end K) (envOf ["text", "place", "end", "behind"] [dNs a.1, dN a.2.1, dN a.2.2]) W (rD (dN (a.2.1 + (wordAt a.1 a.2.1 a.2.2).length))) := fun ⟨t, p, e⟩ ⟨h1, h2, h3⟩ W => by
  dsimp only at h1 h2 h3 ⊢
  have c1 : ∀ n : Nat, decide ((n : Int) = 32) = decide (n = 32) := fun n => decide_eq_decide.mpr (by omega)
  have hl := wordAt_len t p e
  have tst : ∀ {G : En} {k : Nat}, p + k < t.length → G[0]? = some (some (.pl (dNs t))) → G[3]? = some (some (.pl (dN (p + k)))) → EvT (tTest (tOp rEq (tOp (rIxL K) (tVar 0) (tVar 3)) (tC (.int 32)))) G W (decide (t.getD (p + k) 0 = 32)) := fun hk g0 g3 => by
    rw [← c1]
    exact et_test (ev_eqI (ev_ixL (j := p + _) (ev_var g0) (ev_var g3) (nats_at hk)) ev_c)
  refine rt_forM (List.range (e - p)) (fun k => dN (p + k)) (fun _ => [some (.pl (dNs t)), some (.pl (dN p)), some (.pl (dN e)), none]) (fun k G => G.set 3 (some (.pl (dN (p + k))))) [3] [3] (wordAt t p e).length (by rw [List.length_range]; exact hl) (ei_rangeP ev_var ev_var (by omega) (by omega)) (fun _ _ => tg_name) (fun i a hi ha => ?_) (fun a ha => ?_) fun hx => ?_
  · obtain ⟨rfl, _⟩ := rg_get ha
    exact ⟨_, nx_ifF ((tst (by omega) rfl rfl).to (decide_eq_false (wordAt_lt h2 hi))) nx_skip, rfl⟩
  · obtain ⟨rfl, hi⟩ := rg_get ha
    exact rt_ifT ((tst (by omega) rfl rfl).to (decide_eq_true (wordAt_end h1 h2 hi))) (rt_ret ev_var)
  · rw [List.length_range] at hx
    exact rt_ret (Ev.to ev_var (by rw [hx]; exact congrArg dN (by omega)))
theorem ok_word_end {P : Program} {w : World} {K : PySem.W.Frag} {mg : Str → Option Value} {base : Heap} (C : Ctx K mg) : Ok P w K mg base 1 "word_end" ["text", "place", "end"] (sp_word_end K) :=
  ok_gen C 6 rfl rfl sc_word_end fg_word_end (fun _ _ _ _ _ _ hr o => dv_word_end o (fun _ => rfl)) (fun _ _ _ _ _ _ us hl => match us, hl with | [_, _, _], _ => rfl) (len_of fun _ => rfl) fun _ _ _ _ h => reads_of (ev_word_end C) h
abbrev dTok (K : PySem.W.Frag) (y : Tok) : Dsc := dT K [dN y.offset, dNs y.bytes]
def sp_words_of (K : PySem.W.Frag) : Sp := spOf (fun a : List Nat × Nat × Nat => a.2.1 ≤ a.2.2 ∧ a.2.2 ≤ a.1.length ∧ a.1.length ≤ 100000) (fun a => [dNs a.1, dN a.2.1, dN a.2.2]) (fun a => dL ((toksAt a.2.1 ((a.1.drop a.2.1).take (a.2.2 - a.2.1))).map (dTok K)))
/-! words_of -/
def N_words_of : List Str := ["text", "start", "end", "places", "place"]
theorem sc_words_of : FnScope ["text", "start", "end", "places", "place"] ["text", "start", "end"] (defScope s_words_of) := ⟨rfl, rfl, rfl, by decide +kernel, rfl, by decide +kernel, by decide +kernel⟩
theorem nm_words_of : nmB ["text", "start", "end", "places", "place"] (defScope s_words_of) [1, 2, 3] [3] ["range"] = true := by decide +kernel
def t_words_of (K : PySem.W.Frag) : TS := tSeq (tAsg (tLc (iRng2 (tCons (tVar 1) (tCons (tVar 2) (tNil)))) (gName 4) (tB (tCall (sp_is_word_start K) [] E0 (tCons (tVar 0) (tCons (tVar 4) (tCons (tVar 1) (tNil)))))) (tVar 4) [4]) (gName 3)) (tRet (tLc (iList K (tVar 3)) (gName 4) (tYes) (tTup (tCons (tVar 4) (tCons (tSl (rSlL K) (tVar 0) (tPart (tVar 4)) (tPart (tCall (sp_word_end K) [] E0 (tCons (tVar 0) (tCons (tVar 4) (tCons (tVar 2) (tNil))))))) (tNil)))) [4]))
theorem dv_words_of {X : Cx} (o0 : On fa X ["text", "start", "end", "places", "place"] (defScope s_words_of)) (hf : ∀ x, X.fn x = true) (c_is_word_start : Cal X "is_word_start" (sp_is_word_start X.K)) (c_word_end : Cal X "word_end" (sp_word_end X.K)) : PSs X (defBody s_words_of) (t_words_of X.K) := by
  have n0 := nm_words_of
  exact pss_cons (asetLc o0 sc_words_of.kind (i := 3) (own := [("place", 4)]) rfl (by decide +kernel) (by decide +kernel) (pi_range2 (o0.gl n0 (gm 0 rfl)) (o0.gb.free f_range) (pa_cons (av o0 n0 1 (gm 0 rfl) rfl) (pa_cons (av o0 n0 2 (gm 1 rfl) rfl) (pa_nil)))) (o0.ok (own := [("place", 4)]) (by decide +kernel)) (fun s1 H1 C1 l1 p1 => let o1 := o0.blk s1 H1 _ C1 l1 p1; agb o1 4 rfl (by decide +kernel)) (fun s1 H1 C1 l1 p1 => (fun (n1 : nmB _ (relS _ _) [0, 4, 1] [] ["is_word_start"] = true) => let o1 := o0.blk s1 H1 _ C1 l1 p1; pts_one (pt_val (acall o1 n1 c_is_word_start.blk (pa_cons (av o1 n1 0 (gm 0 rfl) rfl) (pa_cons (av o1 n1 4 (gm 1 rfl) rfl) (pa_cons (av o1 n1 1 (gm 2 rfl) rfl) (pa_nil)))) (gm 0 rfl)))) (by decide +kernel)) (fun s1 H1 C1 l1 p1 => (fun (n1 : nmB _ (relS _ _) [0, 4, 1] [] ["is_word_start"] = true) => let o1 := o0.blk s1 H1 _ C1 l1 p1; av o1 n1 4 (gm 1 rfl) rfl) (by decide +kernel))) (pss_one (ps_ret (pe_lc (own := [("place", 4)]) o0.calm o0.nd (pi_list (av o0 n0 3 (gm 2 rfl) rfl)) (o0.ok (own := [("place", 4)]) (by decide +kernel)) (fun s1 H1 C1 l1 p1 => let o1 := o0.blk s1 H1 _ C1 l1 p1; agb o1 4 rfl (by decide +kernel)) (fun _ _ _ _ _ => pts_nil) (fun s1 H1 C1 l1 p1 => (fun (n1 : nmB _ (relS _ _) [4, 0, 2] [] ["word_end"] = true) => let o1 := o0.blk s1 H1 _ C1 l1 p1; pe_tup (pa_cons (av o1 n1 4 (gm 0 rfl) rfl) (pa_cons (pe_slice sl_list (av o1 n1 0 (gm 1 rfl) rfl) (po_some (av o1 n1 4 (gm 0 rfl) rfl)) (po_some (acall o1 n1 c_word_end.blk (pa_cons (av o1 n1 0 (gm 1 rfl) rfl) (pa_cons (av o1 n1 4 (gm 0 rfl) rfl) (pa_cons (av o1 n1 2 (gm 2 rfl) rfl) (pa_nil)))) (gm 0 rfl)))) (pa_nil)))) (by decide +kernel)))))
theorem ev_words_of (C : Ctx K mg) : ∀ a : List Nat × Nat × Nat, (a.2.1 ≤ a.2.2 ∧ a.2.2 ≤ a.1.length ∧ a.1.length ≤ 100000) → ∀ W, Rt (t_words_of K) (envOf ["text", "start", "end", "places", "place"] [dNs a.1, dN a.2.1, dN a.2.2]) W (rD (dL ((toksAt a.2.1 ((a.1.drop a.2.1).take (a.2.2 - a.2.1))).map (dTok K)))) := fun ⟨t, s, e⟩ ⟨h1, h2, h3⟩ W => by
  dsimp only at h1 h2 h3 ⊢
  rw [← toks_prog h1 h2]
  have hr : ∀ q : Nat → Bool, ((List.range (e - s)).filter q).length ≤ 100000 := fun q => filt_len _ _ (by rw [List.length_range]; omega)
  refine rt_seq (nx_set (d := dNs (((List.range (e - s)).filter fun k => startB t (s + k) s).map fun k => s + k)) ((EvO.ev (evO_lc (List.range (e - s)) (fun k => dN (s + k)) (fun k => startB t (s + k) s) (fun k => dN (s + k)) (fun k G => G.set 4 (some (.pl (dN (s + k))))) [4] (ei_rangeP ev_var ev_var (by omega) (by omega)) (fun _ _ => tg_name)
    (fun k hk => et_B (ev_call (t, s + k, s) ⟨by have := List.mem_range.mp hk; show s + k < t.length; omega, Nat.le_add_right _ _⟩ (ea_cons ev_var (ea_cons ev_var (ea_cons ev_var ea_nil))))) (fun k _ _ => ev_var) (fun j h => h) (szl (by rw [List.length_range]; omega)))).to dL_mm.symm)) ?_
  refine rt_frz (rt_retO (EvO.to (evO_lcm ((List.range (e - s)).filter fun k => startB t (s + k) s) (fun k => dN (s + k)) (fun k => dTok K ⟨s + k, wordAt t (s + k) e⟩) (fun k G => G.set 4 (some (.pl (dN (s + k))))) [4] (ei_list (Ev.to ev_var dL_mm)) (fun _ _ => tg_name)
    (fun k hk => ev_tup (ea_cons ev_var (ea_cons (EvO.ev ((evO_slL (lo := some ((s + k : Nat) : Int)) (hi := some ((s + k + (wordAt t (s + k) e).length : Nat) : Int)) ev_var (evp_some ev_var) (evp_some (ev_call (t, s + k, e) ⟨by have := List.mem_range.mp (List.mem_filter.mp hk).1; show s + k ≤ e; omega, h2, h3⟩ (ea_cons ev_var (ea_cons ev_var (ea_cons ev_var ea_nil)))))).to ?_)) ea_nil))) (fun j h => h) (szl (hr _))) ?_))
  · rw [cut_all dN t, Nat.add_sub_cancel_left, wordAt_take]
  · rw [List.map_map]
    rfl
theorem ok_words_of {P : Program} {w : World} {K : PySem.W.Frag} {mg : Str → Option Value} {base : Heap} (C : Ctx K mg) : Ok P w K mg base 2 "words_of" ["text", "start", "end"] (sp_words_of K) :=
  ok_gen C 7 rfl rfl sc_words_of fg_words_of (fun _ _ _ _ _ _ hr o => dv_words_of o (fun _ => rfl) ((ok_is_word_start C).cal hr (by decide)) ((ok_word_end C).cal hr (by decide))) (fun _ _ _ _ _ _ us hl => match us, hl with | [_, _, _], _ => rfl) (len_of fun _ => rfl) fun _ _ _ _ h => reads_of (ev_words_of C) h
def sp_signs_of (K : PySem.W.Frag) : Sp := spOf (fun a : Str => a.cps.toList.length ≤ 100000) (fun a => [dS a]) (fun a => dNs a.cps.toList)
/-! signs_of -/
def N_signs_of : List Str := ["name", "sign"]
theorem sc_signs_of : FnScope ["name", "sign"] ["name"] (defScope s_signs_of) := ⟨rfl, rfl, rfl, by decide +kernel, rfl, by decide +kernel, by decide +kernel⟩
theorem nm_signs_of : nmB ["name", "sign"] (defScope s_signs_of) [0] [] [] = true := by decide +kernel
def t_signs_of (K : PySem.W.Frag) : TS := tRet (tLc (iStr (tVar 0)) (gName 1) (tYes) (tCB (cOrd) (tCons (tVar 1) (tNil))) [1])
theorem dv_signs_of {X : Cx} (o0 : On fa X ["name", "sign"] (defScope s_signs_of)) (hf : ∀ x, X.fn x = true) : PSs X (defBody s_signs_of) (t_signs_of X.K) := by
  have n0 := nm_signs_of
  exact pss_one (ps_ret (pe_lc (own := [("sign", 1)]) o0.calm o0.nd (pi_str (av o0 n0 0 (gm 0 rfl) rfl)) (o0.ok (own := [("sign", 1)]) (by decide +kernel)) (fun s1 H1 C1 l1 p1 => let o1 := o0.blk s1 H1 _ C1 l1 p1; agb o1 1 rfl (by decide +kernel)) (fun _ _ _ _ _ => pts_nil) (fun s1 H1 C1 l1 p1 => (fun (n1 : nmB _ (relS _ _) [1] [] ["ord"] = true) => let o1 := o0.blk s1 H1 _ C1 l1 p1; acb o1 n1 call_ord (by decide +kernel) (pa_cons (av o1 n1 1 (gm 0 rfl) rfl) (pa_nil)) (gm 0 rfl) f_ord) (by decide +kernel))))
theorem ev_signs_of (C : Ctx K mg) : ∀ a : Str, a.cps.toList.length ≤ 100000 → ∀ W, Rt (t_signs_of K) (envOf ["name", "sign"] [dS a]) W (rD (dNs a.cps.toList)) := fun x h W =>
  rt_frz (rt_retO (evO_lcm x.cps.toList (fun c => dS ⟨#[c]⟩) dN (fun c G => G.set 1 (some (.pl (dS ⟨#[c]⟩)))) [1] (ei_str ev_var) (fun _ _ => tg_name) (fun c _ => ev_ord ev_var) (fun j h => h) (szl h)))
theorem ok_signs_of {P : Program} {w : World} {K : PySem.W.Frag} {mg : Str → Option Value} {base : Heap} (C : Ctx K mg) : Ok P w K mg base 1 "signs_of" ["name"] (sp_signs_of K) :=
  ok_gen C 8 rfl rfl sc_signs_of fg_signs_of (fun _ _ _ _ _ _ hr o => dv_signs_of o (fun _ => rfl)) (fun _ _ _ _ _ _ us hl => match us, hl with | [_], _ => rfl) (len_of fun _ => rfl) fun _ _ _ _ h => reads_of (ev_signs_of C) h
def sp_are_digits (K : PySem.W.Frag) : Sp := spOf (fun a : List Nat => a.length ≤ 100000) (fun a => [dNs a]) (fun a => dB (a.all Vbndaa.isDigit))
/-! are_digits -/
def N_are_digits : List Str := ["word", "sign"]
theorem sc_are_digits : FnScope ["word", "sign"] ["word"] (defScope s_are_digits) := ⟨rfl, rfl, rfl, by decide +kernel, rfl, by decide +kernel, by decide +kernel⟩
theorem nm_are_digits : nmB ["word", "sign"] (defScope s_are_digits) [0] [] ["all"] = true := by decide +kernel
def t_are_digits (K : PySem.W.Frag) : TS := tRet (tCB (rAll K) (tCons (tLc (iList K (tVar 0)) (gName 1) (tYes) (tChain oLe oLe (tC (.int (48))) (tVar 1) (tC (.int (57)))) [1]) (tNil)))
theorem dv_are_digits {X : Cx} (o0 : On fa X ["word", "sign"] (defScope s_are_digits)) (hf : ∀ x, X.fn x = true) : PSs X (defBody s_are_digits) (t_are_digits X.K) := by
  have n0 := nm_are_digits
  exact pss_one (ps_ret (acb o0 n0 (cr_all o0.calm) (by decide +kernel) (pa_cons (pe_lc (own := [("sign", 1)]) o0.calm o0.nd (pi_list (av o0 n0 0 (gm 0 rfl) rfl)) (o0.ok (own := [("sign", 1)]) (by decide +kernel)) (fun s1 H1 C1 l1 p1 => let o1 := o0.blk s1 H1 _ C1 l1 p1; agb o1 1 rfl (by decide +kernel)) (fun _ _ _ _ _ => pts_nil) (fun s1 H1 C1 l1 p1 => (fun (n1 : nmB _ (relS _ _) [1] [] ["ZERO", "NINE"] = true) => let o1 := o0.blk s1 H1 _ C1 l1 p1; pe_chain op_le op_le (agi o1 n1 (gm 0 rfl) f_ZERO) (av o1 n1 1 (gm 0 rfl) rfl) (agi o1 n1 (gm 1 rfl) f_NINE)) (by decide +kernel))) (pa_nil)) (gm 0 rfl) f_all))
theorem ev_are_digits (C : Ctx K mg) : ∀ a : List Nat, a.length ≤ 100000 → ∀ W, Rt (t_are_digits K) (envOf ["word", "sign"] [dNs a]) W (rD (dB (a.all Vbndaa.isDigit))) := fun l h W => by
  refine rt_ret ((ev_all (bs := l.map Vbndaa.isDigit) ((EvO.ev (evO_lcm l dN (fun n => dB (Vbndaa.isDigit n)) (fun c G => G.set 1 (some (.pl (dN c)))) [1] (ei_list ev_var) (fun _ _ => tg_name) (fun c _ => (ev_chain rfl rfl ev_c ev_var ev_c).to ?_) (fun j h => h) (szl h))).to ?_)).to ?_)
  · unfold Vbndaa.isDigit
    rw [show decide (((48 : Int)) ≤ (c : Int)) = decide (48 ≤ c) from decide_eq_decide.mpr (by omega), show decide ((c : Int) ≤ 57) = decide (c ≤ 57) from decide_eq_decide.mpr (by omega)]
  · rw [List.map_map]; rfl
  · rw [List.all_map]; rfl
theorem ok_are_digits {P : Program} {w : World} {K : PySem.W.Frag} {mg : Str → Option Value} {base : Heap} (C : Ctx K mg) : Ok P w K mg base 1 "are_digits" ["word"] (sp_are_digits K) :=
  ok_gen C 9 rfl rfl sc_are_digits fg_are_digits (fun _ _ _ _ _ _ hr o => dv_are_digits o (fun _ => rfl)) (fun _ _ _ _ _ _ us hl => match us, hl with | [_], _ => rfl) (len_of fun _ => rfl) fun _ _ _ _ h => reads_of (ev_are_digits C) h
def sp_number_in (K : PySem.W.Frag) : Sp := spOf (fun a : List Nat => a.length ≤ 100000) (fun a => [dNs a]) (fun a => dI (optI (Vbndaa.natOfToken 3 a)))
/-! number_in -/
def N_number_in : List Str := ["word", "found", "sign"]
theorem sc_number_in : FnScope ["word", "found", "sign"] ["word"] (defScope s_number_in) := ⟨rfl, rfl, rfl, by decide +kernel, rfl, by decide +kernel, by decide +kernel⟩
theorem nm_number_in : nmB ["word", "found", "sign"] (defScope s_number_in) [0, 1, 2] [1, 2] ["len", "MOST_DIGITS", "are_digits", "NONE_SAID", "ZERO"] = true := by decide +kernel
def t_number_in (K : PySem.W.Frag) : TS := tSeq (tIfS (tOr (tNot (tTest (tChain oLe oLe (tC (.int 1)) (tCB (cLen K) (tCons (tVar 0) (tNil))) (tC (.int (3)))))) (tNot (tB (tCall (sp_are_digits K) [] E0 (tCons (tVar 0) (tNil)))))) (tRet (tC (.int (-1)))) (tNext)) (tSeq (tIfS (tAnd (tTest (tOp oGt (tCB (cLen K) (tCons (tVar 0) (tNil))) (tC (.int 1)))) (tTest (tOp rEq (tOp (rIxL K) (tVar 0) (tC (.int 0))) (tC (.int (48)))))) (tRet (tC (.int (-1)))) (tNext)) (tSeq (tAsg (tC (.int 0)) (gName 1)) (tSeq (tFor (iList K (tVar 0)) (gName 2) (tAsg (tOp oSub (tOp oAdd (tOp oMul (tC (.int 10)) (tVar 1)) (tVar 2)) (tC (.int (48)))) (gName 1))) (tRet (tVar 1)))))
theorem dv_number_in {X : Cx} (o0 : On fa X ["word", "found", "sign"] (defScope s_number_in)) (hf : ∀ x, X.fn x = true) (c_are_digits : Cal X "are_digits" (sp_are_digits X.K)) : PSs X (defBody s_number_in) (t_number_in X.K) := by
  have n0 := nm_number_in
  exact pss_cons (ps_if (PW.pt (pw_or (pt_not (pt_chain op_le op_le (pe_int) (acb o0 n0 call_len_seq (by decide +kernel) (pa_cons (av o0 n0 0 (gm 0 rfl) rfl) (pa_nil)) (gm 0 rfl) f_len) (agi o0 n0 (gm 1 rfl) f_MOST_DIGITS))) (pw_or1 (pt_not (pt_val (acall o0 n0 c_are_digits (pa_cons (av o0 n0 0 (gm 0 rfl) rfl) (pa_nil)) (gm 2 rfl))))))) (pss_one (ps_ret (agi o0 n0 (gm 3 rfl) f_NONE_SAID))) (pss_nil)) (pss_cons (ps_if (PW.pt (pw_and (pt_cmpR op_gt (acb o0 n0 call_len_seq (by decide +kernel) (pa_cons (av o0 n0 0 (gm 0 rfl) rfl) (pa_nil)) (gm 0 rfl) f_len) (pe_int) (nomark _)) (pw_and1 (pt_cmpR op_eq (pe_ix ix_list (av o0 n0 0 (gm 0 rfl) rfl) (pe_int) (fun _ _ => rfl)) (agi o0 n0 (gm 4 rfl) f_ZERO) (nomark _))))) (pss_one (ps_ret (agi o0 n0 (gm 3 rfl) f_NONE_SAID))) (pss_nil)) (pss_cons (aset o0 n0 hf 1 (pe_int) (gm 0 rfl) rfl) (pss_cons (ps_for o0.nev o0.calm (pi_list (av o0 n0 0 (gm 0 rfl) rfl)) (ag o0 n0 hf 2 (gm 1 rfl) rfl) (pss_one (aset o0 n0 hf 1 (pe_op op_sub (pe_op op_add (pe_op op_mul (pe_int) (av o0 n0 1 (gm 1 rfl) rfl)) (av o0 n0 2 (gm 2 rfl) rfl)) (agi o0 n0 (gm 4 rfl) f_ZERO)) (gm 0 rfl) rfl))) (pss_one (ps_ret (av o0 n0 1 (gm 1 rfl) rfl))))))
theorem ev_number_in (C : Ctx K mg) : ∀ a : List Nat, a.length ≤ 100000 → ∀ W, Rt (t_number_in K) (envOf ["word", "found", "sign"] [dNs a]) W (rD (dI (optI (Vbndaa.natOfToken 3 a)))) := fun l h W => by
  unfold Vbndaa.natOfToken
  refine rt_ifR (b := !(decide (1 ≤ l.length) && decide (l.length ≤ 3)) || !(l.all Vbndaa.isDigit)) (et_or (et_not ((et_test (ev_chain rfl rfl ev_c (ev_lenM ev_var) ev_c)).to ?_)) fun _ => et_not (et_B (ev_call l h (ea_cons ev_var ea_nil)))) (fun e => ?_) fun e => ?_
  · rw [show decide ((1 : Int) ≤ (l.length : Int)) = decide (1 ≤ l.length) from decide_eq_decide.mpr (by omega), show decide ((l.length : Int) ≤ 3) = decide (l.length ≤ 3) from decide_eq_decide.mpr (by omega)]
  · rw [if_pos]
    · exact rt_ret ev_c
    · rw [Bool.or_eq_true, Bool.not_eq_true', Bool.not_eq_true', Bool.and_eq_false_iff, decide_eq_false_iff_not, decide_eq_false_iff_not] at e
      rcases e with (e | e) | e
      · exact .inl (List.isEmpty_iff.mpr (List.eq_nil_of_length_eq_zero (by omega)))
      · exact .inr (.inl (by omega))
      · exact .inr (.inr (.inl e))
  rw [Bool.or_eq_false_iff, Bool.not_eq_false', Bool.not_eq_false', Bool.and_eq_true, decide_eq_true_eq, decide_eq_true_eq] at e
  obtain ⟨⟨e1, e2⟩, e3⟩ := e
  refine rt_ifR (b := decide (1 < l.length) && decide (l.getD 0 0 = 48)) (et_and ((et_test (ev_I0 (ev_lenM ev_var) ev_c)).to (decide_eq_decide.mpr (by show (1 : Int) < _ ↔ _; omega))) fun _ => (et_test (ev_eqI (ev_ixL (j := 0) ev_var ev_c (nats_at (by omega))) ev_c)).to (decide_eq_decide.mpr (by omega))) (fun e => ?_) fun e => ?_
  · rw [if_pos]
    · exact rt_ret ev_c
    · rw [Bool.and_eq_true, decide_eq_true_eq, decide_eq_true_eq] at e
      refine .inr (.inr (.inr ⟨e.1, ?_⟩))
      cases l with
      | nil => simp at e1
      | cons c r => exact congrArg some e.2
  rw [Bool.and_eq_false_iff, decide_eq_false_iff_not, decide_eq_false_iff_not] at e
  have hne : ¬ (l.isEmpty = true ∨ 3 < l.length ∨ l.all Vbndaa.isDigit = false ∨ 1 < l.length ∧ l.head? = some 48) := by
    rintro (h | h | h | ⟨h, h'⟩)
    · rw [List.isEmpty_iff] at h; subst h; simp at e1
    · omega
    · rw [e3] at h; cases h
    · rcases e with e | e
      · exact e h
      · cases l with
        | nil => cases h'
        | cons c r => exact e (Option.some.inj h')
  rw [if_neg hne]
  refine rt_seq (nx_set (d := dN 0) ev_c) ?_
  refine rt_seq (nx_forM l dN (fun i => [some (.pl (dNs l)), some (.pl (dN (Vbndaa.valueOf (l.take i)))), none]) (fun c G => G.set 2 (some (.pl (dN c)))) [2] (ei_list ev_var) (fun _ _ => tg_name) fun i c hc => ?_) ?_
  · have hd : Vbndaa.isDigit c = true := List.all_eq_true.mp e3 c (List.mem_of_getElem? hc)
    unfold Vbndaa.isDigit at hd
    rw [Bool.and_eq_true, decide_eq_true_eq, decide_eq_true_eq] at hd
    rw [take_get hc]
    have hv : Vbndaa.valueOf (l.take i ++ [c]) = 10 * Vbndaa.valueOf (l.take i) + (c - 48) := by
      unfold Vbndaa.valueOf
      rw [List.foldl_append]
      rfl
    rw [hv]
    refine ⟨_, nx_set (d := dN (10 * Vbndaa.valueOf (l.take i) + (c - 48))) ((ev_I0 (ev_I0 (ev_I (C := CMul) ev_c ev_var (.inl (by decide))) ev_var) ev_c).to ?_), rfl⟩
    exact congrArg dI (by omega)
  · rw [List.take_length]
    exact rt_ret ev_var
theorem ok_number_in {P : Program} {w : World} {K : PySem.W.Frag} {mg : Str → Option Value} {base : Heap} (C : Ctx K mg) : Ok P w K mg base 2 "number_in" ["word"] (sp_number_in K) :=
  ok_gen C 10 rfl rfl sc_number_in fg_number_in (fun _ _ _ _ _ _ hr o => dv_number_in o (fun _ => rfl) ((ok_are_digits C).cal hr (by decide))) (fun _ _ _ _ _ _ us hl => match us, hl with | [_], _ => rfl) (len_of fun _ => rfl) fun _ _ _ _ h => reads_of (ev_number_in C) h
def suitTok : List Nat → Option Nat
  | [c] => if 97 ≤ c ∧ c ≤ 100 then some (c - 97) else none
  | _ => none
def sp_suit_in (K : PySem.W.Frag) : Sp := spOf (fun _ : List Nat => True) (fun a => [dNs a]) (fun a => dI (optI (suitTok a)))
/-! suit_in -/
def N_suit_in : List Str := ["word"]
theorem sc_suit_in : FnScope ["word"] ["word"] (defScope s_suit_in) := ⟨rfl, rfl, rfl, by decide +kernel, rfl, by decide +kernel, by decide +kernel⟩
theorem nm_suit_in : nmB ["word"] (defScope s_suit_in) [0] [] ["len", "FIRST_SUIT", "LAST_SUIT", "NONE_SAID"] = true := by decide +kernel
def t_suit_in (K : PySem.W.Frag) : TS := tSeq (tIfS (tOr (tTest (tOp rNe (tCB (cLen K) (tCons (tVar 0) (tNil))) (tC (.int 1)))) (tNot (tTest (tChain oLe oLe (tC (.int (97))) (tOp (rIxL K) (tVar 0) (tC (.int 0))) (tC (.int (100))))))) (tRet (tC (.int (-1)))) (tNext)) (tRet (tOp oSub (tOp (rIxL K) (tVar 0) (tC (.int 0))) (tC (.int (97)))))
theorem dv_suit_in {X : Cx} (o0 : On fa X ["word"] (defScope s_suit_in)) (hf : ∀ x, X.fn x = true) : PSs X (defBody s_suit_in) (t_suit_in X.K) := by
  have n0 := nm_suit_in
  exact pss_cons (ps_if (PW.pt (pw_or (pt_cmpR op_ne (acb o0 n0 call_len_seq (by decide +kernel) (pa_cons (av o0 n0 0 (gm 0 rfl) rfl) (pa_nil)) (gm 0 rfl) f_len) (pe_int) (nomark _)) (pw_or1 (pt_not (pt_chain op_le op_le (agi o0 n0 (gm 1 rfl) f_FIRST_SUIT) (pe_ix ix_list (av o0 n0 0 (gm 0 rfl) rfl) (pe_int) (fun _ _ => rfl)) (agi o0 n0 (gm 2 rfl) f_LAST_SUIT)))))) (pss_one (ps_ret (agi o0 n0 (gm 3 rfl) f_NONE_SAID))) (pss_nil)) (pss_one (ps_ret (pe_op op_sub (pe_ix ix_list (av o0 n0 0 (gm 0 rfl) rfl) (pe_int) (fun _ _ => rfl)) (agi o0 n0 (gm 1 rfl) f_FIRST_SUIT))))
theorem ev_suit_in (C : Ctx K mg) : ∀ a : List Nat, True → ∀ W, Rt (t_suit_in K) (envOf ["word"] [dNs a]) W (rD (dI (optI (suitTok a)))) := fun l _ W => by
  have tst : ∀ {G : En} {c : Nat}, G[0]? = some (some (.pl (dNs [c]))) → Ev (tOp (rIxL K) (tVar 0) (tC (.int 0))) G W (dN c) := fun g => ev_ixL (j := 0) (ev_var g) ev_c rfl
  match l with
  | [c] =>
    unfold suitTok
    refine rt_ifR (b := !(decide (97 ≤ c) && decide (c ≤ 100))) ((et_or (b := false) ((et_test (ev_neI (ev_lenM ev_var) ev_c)).to rfl) fun _ => et_not ((et_test (ev_chain rfl rfl ev_c (tst rfl) ev_c)).to ?_)).to (Bool.false_or _)) (fun e => ?_) fun e => ?_
    · rw [show decide (((97 : Int)) ≤ (c : Int)) = decide (97 ≤ c) from decide_eq_decide.mpr (by omega), show decide ((c : Int) ≤ 100) = decide (c ≤ 100) from decide_eq_decide.mpr (by omega)]
    · rw [Bool.not_eq_true', ← Bool.not_eq_true, Bool.and_eq_true, decide_eq_true_eq, decide_eq_true_eq] at e
      refine rt_ret (Ev.to ev_c ?_)
      dsimp only
      rw [if_neg e]
      rfl
    · rw [Bool.not_eq_false', Bool.and_eq_true, decide_eq_true_eq, decide_eq_true_eq] at e
      dsimp only
      rw [if_pos e]
      exact rt_ret ((ev_I0 (tst rfl) ev_c).to (congrArg dI (by show (c : Int) - 97 = ((c - 97 : Nat) : Int); omega)))
  | [] => exact rt_ifR (b := true) (et_or (b := true) (c := true) ((et_test (ev_neI (ev_lenM ev_var) ev_c)).to rfl) fun h => nomatch h) (fun _ => rt_ret ev_c) fun h => nomatch h
  | a :: b :: r => exact rt_ifR (b := true) (et_or (b := true) (c := true) ((et_test (ev_neI (ev_lenM ev_var) ev_c)).to (by rw [decide_eq_false (by simp only [List.length_cons]; omega)]; rfl)) fun h => nomatch h) (fun _ => rt_ret ev_c) fun h => nomatch h
theorem ok_suit_in {P : Program} {w : World} {K : PySem.W.Frag} {mg : Str → Option Value} {base : Heap} (C : Ctx K mg) : Ok P w K mg base 1 "suit_in" ["word"] (sp_suit_in K) :=
  ok_gen C 11 rfl rfl sc_suit_in fg_suit_in (fun _ _ _ _ _ _ hr o => dv_suit_in o (fun _ => rfl)) (fun _ _ _ _ _ _ us hl => match us, hl with | [_], _ => rfl) (len_of fun _ => rfl) fun _ _ _ _ h => reads_of (ev_suit_in C) h
end
end Fd

namespace Fd
open PySem PySem.Spec PyProof.Rows L2
open Vbndao (Deal Position)
section
variable {P : Program} {w : World} {K : PySem.W.Frag} {mg : Str → Option Value} {base : Heap}
theorem tok_small (r : List Nat) : Vbndaa.natOfToken 2 r = if r.length ≤ 2 then Vbndaa.natOfToken 3 r else none := by
  unfold Vbndaa.natOfToken
  by_cases h : r.length ≤ 2
  · rw [if_pos h]
    have e : (r.isEmpty = true ∨ 2 < r.length ∨ r.all Vbndaa.isDigit = false ∨ 1 < r.length ∧ r.head? = some 48) ↔ (r.isEmpty = true ∨ 3 < r.length ∨ r.all Vbndaa.isDigit = false ∨ 1 < r.length ∧ r.head? = some 48) := by
      constructor
      · rintro (a | a | a)
        · exact .inl a
        · omega
        · exact .inr (.inr a)
      · rintro (a | a | a)
        · exact .inl a
        · omega
        · exact .inr (.inr a)
    by_cases q : (r.isEmpty = true ∨ 2 < r.length ∨ r.all Vbndaa.isDigit = false ∨ 1 < r.length ∧ r.head? = some 48)
    · rw [if_pos q, if_pos (e.mp q)]
    · rw [if_neg q, if_neg fun z => q (e.mpr z)]
  · rw [if_neg h, if_pos (.inr (.inl (by omega)))]
theorem tok_nil : Vbndaa.natOfToken 3 [] = none := rfl
/-- card_in as the program has it -/
theorem card_tok (l : List Nat) : Vbndao.cardOfToken l = if 2 ≤ l.length ∧ l.length ≤ 3 then (match suitTok (l.take 1), Vbndaa.natOfToken 3 (l.drop 1) with
    | some s, some n => if 1 ≤ n ∧ n ≤ 13 then some (16 * s + n) else none
    | _, _ => none) else none := by
  cases l with
  | nil => rfl
  | cons c r =>
    have e1 : (c :: r).take 1 = [c] := by rw [List.take_succ_cons, List.take_zero]
    have e2 : (c :: r).drop 1 = r := rfl
    rw [e1, e2, List.length_cons]
    unfold Vbndao.cardOfToken suitTok
    dsimp only
    by_cases hc : 97 ≤ c ∧ c ≤ 100
    · rw [if_pos hc, if_pos hc, tok_small]
      by_cases h2 : r.length ≤ 2
      · rw [if_pos h2]
        cases r with
        | nil => rw [if_neg (by simp), tok_nil]
        | cons a r =>
          rw [List.length_cons] at h2 ⊢
          rw [if_pos ⟨by omega, by omega⟩]
          cases Vbndaa.natOfToken 3 (a :: r) <;> rfl
      · rw [if_neg h2, if_neg (by omega)]
    · rw [if_neg hc, if_neg hc]
      split <;> rfl
def sp_card_in (K : PySem.W.Frag) : Sp := spOf (fun a : List Nat => a.length ≤ 100000) (fun a => [dNs a]) (fun a => dI (optI (Vbndao.cardOfToken a)))
/-! card_in -/
def N_card_in : List Str := ["word", "rank"]
theorem sc_card_in : FnScope ["word", "rank"] ["word"] (defScope s_card_in) := ⟨rfl, rfl, rfl, by decide +kernel, rfl, by decide +kernel, by decide +kernel⟩
theorem nm_card_in : nmB ["word", "rank"] (defScope s_card_in) [0, 1] [1] ["len", "suit_in", "NONE_SAID", "number_in", "MOST_RANK_words"] = true := by decide +kernel
def t_card_in (K : PySem.W.Frag) : TS := tSeq (tIfS (tOr (tNot (tTest (tChain oLe oLe (tC (.int 2)) (tCB (cLen K) (tCons (tVar 0) (tNil))) (tC (.int 3))))) (tTest (tOp rEq (tCall (sp_suit_in K) [] E0 (tCons (tSl (rSlL K) (tVar 0) (tNoPart) (tPart (tC (.int 1)))) (tNil))) (tC (.int (-1)))))) (tRet (tC (.int (-1)))) (tNext)) (tSeq (tAsg (tCall (sp_number_in K) [] E0 (tCons (tSl (rSlL K) (tVar 0) (tPart (tC (.int 1))) (tNoPart)) (tNil))) (gName 1)) (tSeq (tIfS (tNot (tTest (tChain oLe oLe (tC (.int 1)) (tVar 1) (tC (.int (13)))))) (tRet (tC (.int (-1)))) (tNext)) (tRet (tOp oAdd (tOp oMul (tC (.int 16)) (tCall (sp_suit_in K) [] E0 (tCons (tSl (rSlL K) (tVar 0) (tNoPart) (tPart (tC (.int 1)))) (tNil)))) (tVar 1)))))
theorem dv_card_in {X : Cx} (o0 : On fa X ["word", "rank"] (defScope s_card_in)) (hf : ∀ x, X.fn x = true) (c_suit_in : Cal X "suit_in" (sp_suit_in X.K)) (c_number_in : Cal X "number_in" (sp_number_in X.K)) : PSs X (defBody s_card_in) (t_card_in X.K) := by
  have n0 := nm_card_in
  exact pss_cons (ps_if (PW.pt (pw_or (pt_not (pt_chain op_le op_le (pe_int) (acb o0 n0 call_len_seq (by decide +kernel) (pa_cons (av o0 n0 0 (gm 0 rfl) rfl) (pa_nil)) (gm 0 rfl) f_len) (pe_int))) (pw_or1 (pt_cmpR op_eq (acall o0 n0 c_suit_in (pa_cons (pe_slice sl_list (av o0 n0 0 (gm 0 rfl) rfl) (po_none) (po_some (pe_int))) (pa_nil)) (gm 1 rfl)) (agi o0 n0 (gm 2 rfl) f_NONE_SAID) (nomark _))))) (pss_one (ps_ret (agi o0 n0 (gm 2 rfl) f_NONE_SAID))) (pss_nil)) (pss_cons (aset o0 n0 hf 1 (acall o0 n0 c_number_in (pa_cons (pe_slice sl_list (av o0 n0 0 (gm 0 rfl) rfl) (po_some (pe_int)) (po_none)) (pa_nil)) (gm 3 rfl)) (gm 0 rfl) rfl) (pss_cons (ps_if (pt_not (pt_chain op_le op_le (pe_int) (av o0 n0 1 (gm 1 rfl) rfl) (agi o0 n0 (gm 4 rfl) f_MOST_RANK_words))) (pss_one (ps_ret (agi o0 n0 (gm 2 rfl) f_NONE_SAID))) (pss_nil)) (pss_one (ps_ret (pe_op op_add (pe_op op_mul (pe_int) (acall o0 n0 c_suit_in (pa_cons (pe_slice sl_list (av o0 n0 0 (gm 0 rfl) rfl) (po_none) (po_some (pe_int))) (pa_nil)) (gm 1 rfl))) (av o0 n0 1 (gm 1 rfl) rfl))))))
theorem opt_none (o : Option Nat) : decide (optI o = -1) = o.isNone := by
  cases o with
  | none => rfl
  | some n => exact decide_eq_false (by show ¬ (n : Int) = -1; omega)
theorem ev_card_in (C : Ctx K mg) : ∀ a : List Nat, a.length ≤ 100000 → ∀ W, Rt (t_card_in K) (envOf ["word", "rank"] [dNs a]) W (rD (dI (optI (Vbndao.cardOfToken a)))) := fun l h W => by
  rw [card_tok]
  have hsu : ∀ {G : En}, G[0]? = some (some (.pl (dNs l))) → Ev (tCall (sp_suit_in K) [] E0 (tCons (tSl (rSlL K) (tVar 0) tNoPart (tPart (tC (.int 1)))) tNil)) G W (dI (optI (suitTok (l.take 1)))) := fun g0 =>
    ev_call (l.take 1) trivial (ea_cons ((EvO.ev (evO_slL (lo := none) (hi := some ((1 : Nat) : Int)) (ev_var g0) evp_no (evp_some ev_c))).to (by rw [cut_to])) ea_nil)
  refine rt_ifR (b := !(decide (2 ≤ l.length) && decide (l.length ≤ 3)) || (suitTok (l.take 1)).isNone) (et_or (et_not ((et_test (ev_chain rfl rfl ev_c (ev_lenM ev_var) ev_c)).to ?_)) fun _ => (et_test (ev_eqI (hsu rfl) ev_c)).to (opt_none _)) (fun e => ?_) fun e => ?_
  · rw [show decide ((2 : Int) ≤ (l.length : Int)) = decide (2 ≤ l.length) from decide_eq_decide.mpr (by omega), show decide ((l.length : Int) ≤ 3) = decide (l.length ≤ 3) from decide_eq_decide.mpr (by omega)]
  · refine rt_ret (Ev.to ev_c ?_)
    rw [Bool.or_eq_true, Bool.not_eq_true', Bool.and_eq_false_iff, decide_eq_false_iff_not, decide_eq_false_iff_not] at e
    rcases e with e | e
    · rw [if_neg (by omega)]
      rfl
    · rw [Option.isNone_iff_eq_none] at e
      rw [e]
      split <;> rfl
  · rw [Bool.or_eq_false_iff, Bool.not_eq_false', Bool.and_eq_true, decide_eq_true_eq, decide_eq_true_eq] at e
    obtain ⟨e1, e2⟩ := e
    rw [if_pos e1]
    obtain ⟨s, es⟩ : ∃ s, suitTok (l.take 1) = some s := by
      cases q : suitTok (l.take 1) with
      | none => rw [q] at e2; cases e2
      | some s => exact ⟨s, rfl⟩
    rw [es] at hsu ⊢
    refine rt_seq (nx_set (d := dI (optI (Vbndaa.natOfToken 3 (l.drop 1)))) (ev_call (l.drop 1) (by show (l.drop 1).length ≤ 100000; rw [List.length_drop]; omega) (ea_cons ((EvO.ev (evO_slL (lo := some ((1 : Nat) : Int)) (hi := none) ev_var (evp_some ev_c) evp_no)).to (by rw [cut_from])) ea_nil))) ?_
    cases Vbndaa.natOfToken 3 (l.drop 1) with
    | none => exact rt_ifR (b := true) (et_not (b := false) ((et_test (ev_chain (j := -1) rfl rfl ev_c ev_var ev_c)).to rfl)) (fun _ => rt_ret ev_c) fun h => nomatch h
    | some n =>
      dsimp only
      refine rt_ifR (b := !(decide (1 ≤ n) && decide (n ≤ 13))) (et_not ((et_test (ev_chain (j := (n : Int)) rfl rfl ev_c ev_var ev_c)).to ?_)) (fun e => ?_) fun e => ?_
      · rw [show decide ((1 : Int) ≤ (n : Int)) = decide (1 ≤ n) from decide_eq_decide.mpr (by omega), show decide ((n : Int) ≤ 13) = decide (n ≤ 13) from decide_eq_decide.mpr (by omega)]
      · rw [Bool.not_eq_true', Bool.and_eq_false_iff, decide_eq_false_iff_not, decide_eq_false_iff_not] at e
        rw [if_neg (by omega)]
        exact rt_ret ev_c
      · rw [Bool.not_eq_false', Bool.and_eq_true, decide_eq_true_eq, decide_eq_true_eq] at e
        rw [if_pos e]
        refine rt_ret ((ev_I0 (ev_I (C := CMul) ev_c (hsu rfl) (.inl (by decide))) ev_var).to ?_)
        exact congrArg dI (by show (16 : Int) * (s : Int) + (n : Int) = ((16 * s + n : Nat) : Int); omega)
theorem ok_card_in {P : Program} {w : World} {K : PySem.W.Frag} {mg : Str → Option Value} {base : Heap} (C : Ctx K mg) : Ok P w K mg base 3 "card_in" ["word"] (sp_card_in K) :=
  ok_gen C 12 rfl rfl sc_card_in fg_card_in (fun _ _ _ _ _ _ hr o => dv_card_in o (fun _ => rfl) ((ok_suit_in C).cal hr (by decide)) ((ok_number_in C).cal hr (by decide))) (fun _ _ _ _ _ _ us hl => match us, hl with | [_], _ => rfl) (len_of fun _ => rfl) fun _ _ _ _ h => reads_of (ev_card_in C) h
def givenB (x : Deal) (nm : Str) : Bool := if nm = "ruff" then x.mustRuff else if nm = "trump" then x.trump.isSome else if nm = "trick" then x.trickValue.isSome else if nm = "last" then x.lastTrickBonus.isSome else decide (nm = "lead") && x.firstLeader.isSome
def sp_is_given (K : PySem.W.Frag) : Sp := spOf (fun _ : Deal × Str => True) (fun a => [dSheet K a.1, dS a.2]) (fun a => dB (givenB a.1 a.2))
/-! is_given -/
def N_is_given : List Str := ["sheet", "name"]
theorem sc_is_given : FnScope ["sheet", "name"] ["sheet", "name"] (defScope s_is_given) := ⟨rfl, rfl, rfl, by decide +kernel, rfl, by decide +kernel, by decide +kernel⟩
theorem nm_is_given : nmB ["sheet", "name"] (defScope s_is_given) [1, 0] [] ["NOT_GIVEN"] = true := by decide +kernel
def t_is_given (K : PySem.W.Frag) : TS := tSeq (tIfS (tTest (tOp rEq (tVar 1) (tC (.str "ruff")))) (tRet (tFld K (tVar 0) "is_ruff")) (tNext)) (tSeq (tIfS (tTest (tOp rEq (tVar 1) (tC (.str "trump")))) (tRet (tOp rNe (tFld K (tVar 0) "trump") (tC (.int (-1))))) (tNext)) (tSeq (tIfS (tTest (tOp rEq (tVar 1) (tC (.str "trick")))) (tRet (tOp rNe (tFld K (tVar 0) "trick") (tC (.int (-1))))) (tNext)) (tSeq (tIfS (tTest (tOp rEq (tVar 1) (tC (.str "last")))) (tRet (tOp rNe (tFld K (tVar 0) "last") (tC (.int (-1))))) (tNext)) (tRet (tAndV (tOp rEq (tVar 1) (tC (.str "lead"))) (tOp rNe (tFld K (tVar 0) "lead") (tC (.int (-1)))))))))
theorem dv_is_given {X : Cx} (o0 : On fa X ["sheet", "name"] (defScope s_is_given)) (hf : ∀ x, X.fn x = true) : PSs X (defBody s_is_given) (t_is_given X.K) := by
  have n0 := nm_is_given
  exact pss_cons (ps_if (pt_cmpR op_eq (av o0 n0 1 (gm 0 rfl) rfl) (pe_str) (nomark _)) (pss_one (ps_ret (pe_fld (av o0 n0 0 (gm 1 rfl) rfl) rfl))) (pss_nil)) (pss_cons (ps_if (pt_cmpR op_eq (av o0 n0 1 (gm 0 rfl) rfl) (pe_str) (nomark _)) (pss_one (ps_ret (pe_cmpR op_ne (pe_fld (av o0 n0 0 (gm 1 rfl) rfl) rfl) (agi o0 n0 (gm 0 rfl) f_NOT_GIVEN) (nomark _)))) (pss_nil)) (pss_cons (ps_if (pt_cmpR op_eq (av o0 n0 1 (gm 0 rfl) rfl) (pe_str) (nomark _)) (pss_one (ps_ret (pe_cmpR op_ne (pe_fld (av o0 n0 0 (gm 1 rfl) rfl) rfl) (agi o0 n0 (gm 0 rfl) f_NOT_GIVEN) (nomark _)))) (pss_nil)) (pss_cons (ps_if (pt_cmpR op_eq (av o0 n0 1 (gm 0 rfl) rfl) (pe_str) (nomark _)) (pss_one (ps_ret (pe_cmpR op_ne (pe_fld (av o0 n0 0 (gm 1 rfl) rfl) rfl) (agi o0 n0 (gm 0 rfl) f_NOT_GIVEN) (nomark _)))) (pss_nil)) (pss_one (ps_ret (pe_and (pe_cmpR op_eq (av o0 n0 1 (gm 0 rfl) rfl) (pe_str) (nomark _)) (pe_one (pe_cmpR op_ne (pe_fld (av o0 n0 0 (gm 1 rfl) rfl) rfl) (agi o0 n0 (gm 0 rfl) f_NOT_GIVEN) (nomark _)))))))))
theorem dec_str {x y : Str} : decide (V.str x = V.str y) = decide (x = y) := by
  by_cases e : x = y
  · subst e; simp
  · rw [decide_eq_false e, decide_eq_false (fun h => e (by cases h; rfl))]
theorem ev_eqT {G : En} {W : Wd} {ta tb : TE} {x y : Str} (ha : Ev ta G W (dS x)) (hb : Ev tb G W (dS y)) : Ev (tOp rEq ta tb) G W (dB (decide (x = y))) := (ev_eqS ha hb rfl).to (by rw [dec_str])
theorem opt_some (o : Option Nat) : (!decide (optI o = -1)) = o.isSome := by rw [opt_none]; cases o <;> rfl
theorem ev_is_given (C : Ctx K mg) : ∀ a : Deal × Str, True → ∀ W, Rt (t_is_given K) (envOf ["sheet", "name"] [dSheet K a.1, dS a.2]) W (rD (dB (givenB a.1 a.2))) := fun ⟨x, nm⟩ _ W => by
  dsimp only
  unfold givenB
  refine rt_ifR (et_test (ev_eqT ev_var ev_c)) (fun e => ?_) fun e => ?_
  · rw [if_pos (of_decide_eq_true e)]
    exact rt_ret (evs C ev_var fn_Sheet_is_ruff rfl)
  rw [if_neg (of_decide_eq_false e)]
  clear e
  refine rt_ifR (et_test (ev_eqT ev_var ev_c)) (fun e => ?_) fun e => ?_
  · rw [if_pos (of_decide_eq_true e)]
    exact rt_ret ((ev_neI (evs C ev_var fn_Sheet_trump rfl) ev_c).to (congrArg dB (opt_some _)))
  rw [if_neg (of_decide_eq_false e)]
  clear e
  refine rt_ifR (et_test (ev_eqT ev_var ev_c)) (fun e => ?_) fun e => ?_
  · rw [if_pos (of_decide_eq_true e)]
    exact rt_ret ((ev_neI (evs C ev_var fn_Sheet_trick rfl) ev_c).to (congrArg dB (opt_some _)))
  rw [if_neg (of_decide_eq_false e)]
  clear e
  refine rt_ifR (et_test (ev_eqT ev_var ev_c)) (fun e => ?_) fun e => ?_
  · rw [if_pos (of_decide_eq_true e)]
    exact rt_ret ((ev_neI (evs C ev_var fn_Sheet_last rfl) ev_c).to (congrArg dB (opt_some _)))
  rw [if_neg (of_decide_eq_false e)]
  exact rt_ret (ev_and (ev_eqT ev_var ev_c) fun _ => (ev_neI (evs C ev_var fn_Sheet_lead rfl) ev_c).to (congrArg dB (opt_some _)))
theorem ok_is_given {P : Program} {w : World} {K : PySem.W.Frag} {mg : Str → Option Value} {base : Heap} (C : Ctx K mg) : Ok P w K mg base 1 "is_given" ["sheet", "name"] (sp_is_given K) :=
  ok_gen C 13 rfl rfl sc_is_given fg_is_given (fun _ _ _ _ _ _ hr o => dv_is_given o (fun _ => rfl)) (fun _ _ _ _ _ _ us hl => match us, hl with | [_, _], _ => rfl) (len_of fun _ => rfl) fun _ _ _ _ h => reads_of (ev_is_given C) h
def sp_cards_on (K : PySem.W.Frag) : Sp := spOwn (fun a : Deal => (Vbndao.allCards a).length ≤ 100000) (fun a => [dSheet K a]) (fun a => (Vbndao.allCards a).map dN)
/-! cards_on -/
def N_cards_on : List Str := ["sheet", "found", "hand"]
theorem sc_cards_on : FnScope ["sheet", "found", "hand"] ["sheet"] (defScope s_cards_on) := ⟨rfl, rfl, rfl, by decide +kernel, rfl, by decide +kernel, by decide +kernel⟩
theorem nm_cards_on : nmB ["sheet", "found", "hand"] (defScope s_cards_on) [0, 1, 2] [1, 2] [] = true := by decide +kernel
def t_cards_on (K : PySem.W.Frag) : TS := tSeq (tAsg (tLst (tNil)) (gName 1)) (tSeq (tFor (iList K (tFld K (tVar 0) "hands")) (gName 2) (tDrop (tBM K "list" rExtend (tVar 1) (tCons (tVar 2) (tNil))))) (tRet (tVar 1)))
theorem dv_cards_on {X : Cx} (o0 : On fa X ["sheet", "found", "hand"] (defScope s_cards_on)) (hf : ∀ x, X.fn x = true) : PSs X (defBody s_cards_on) (t_cards_on X.K) := by
  have n0 := nm_cards_on
  exact pss_cons (aset o0 n0 hf 1 (pe_lst (pa_nil)) (gm 0 rfl) rfl) (pss_cons (ps_for o0.nev o0.calm (pi_list (pe_fld (av o0 n0 0 (gm 0 rfl) rfl) rfl)) (ag o0 n0 hf 2 (gm 1 rfl) rfl) (pss_one (ps_expr (pe_bm PySem.F.plainAttrs_list PySem.F.slot_list_extend PySem.F.type_list_extend mt_extend (av o0 n0 1 (gm 1 rfl) rfl) (pa_cons (av o0 n0 2 (gm 2 rfl) rfl) (pa_nil)))))) (pss_one (ps_ret (av o0 n0 1 (gm 1 rfl) rfl))))
theorem ev_cards_on (C : Ctx K mg) : ∀ a : Deal, (Vbndao.allCards a).length ≤ 100000 → ∀ W, Rt (t_cards_on K) (envOf ["sheet", "found", "hand"] [dSheet K a]) W (rO W ((Vbndao.allCards a).map dN)) := fun x h W => by
  refine rt_seq (nx_setO (evO_lst ea_nil)) ?_
  refine rt_seq (nx_forM x.seats (fun s => dNs s.cards) (fun i => [some (.pl (dSheet K x)), some (.ow (ownL W (((x.seats.take i).flatMap fun s => s.cards).map dN))), none]) (fun s G => G.set 2 (some (.pl (dNs s.cards)))) [2] (ei_list (evs C ev_var fn_Sheet_hands rfl)) (fun _ _ => tg_name) fun i s hs => ⟨_, nx_ext (i := 1) (es := s.cards.map dN) rfl rfl ev_var ?_, ?_⟩) ?_
  · rw [List.length_map, List.length_map]
    refine szk (Nat.le_trans ?_ h)
    have e : Vbndao.allCards x = ((x.seats.take (i + 1)) ++ x.seats.drop (i + 1)).flatMap fun s => s.cards := by rw [List.take_append_drop]; rfl
    rw [e, List.flatMap_append, take_get hs, List.flatMap_append, List.length_append, List.length_append]
    simp
  · rw [take_get hs, List.flatMap_append, List.map_append]
    simp only [List.flatMap_cons, List.flatMap_nil, List.append_nil]
    rfl
  · rw [List.take_length]
    exact rt_retV rfl
theorem ok_cards_on {P : Program} {w : World} {K : PySem.W.Frag} {mg : Str → Option Value} {base : Heap} (C : Ctx K mg) : Ok P w K mg base 1 "cards_on" ["sheet"] (sp_cards_on K) :=
  ok_gen C 14 rfl rfl sc_cards_on fg_cards_on (fun _ _ _ _ _ _ hr o => dv_cards_on o (fun _ => rfl)) (fun _ _ _ _ _ _ us hl => match us, hl with | [_], _ => rfl) (len_own fun _ => rfl) fun _ _ _ _ h => reads_own (ev_cards_on C) h
open SX (S S_cat S_len join_S)
theorem str_S (s : String) : (s : Str) = S (Vbndaa.toBytes s) := Str.ofString_eq_toList s
theorem int_S (n : Nat) : ((toString (n : Int) : String) : Str) = S (Vbndaa.decimalBytes n) := by rw [str_S]; rfl
theorem small_log {n : Nat} (h : n ≤ 100000) : (n : Int).natAbs.log2 < 1920 := by
  rw [Int.natAbs_natCast]
  by_cases h0 : n = 0
  · subst h0; decide
  · exact Nat.lt_of_lt_of_le ((Nat.log2_lt h0).mpr (Nat.lt_of_le_of_lt h (by decide : 100000 < 2 ^ 17))) (by decide)
theorem dec_len {n : Nat} (h : n ≤ 999) : (Vbndaa.decimalBytes n).length ≤ 3 := by
  have key : ((List.range 1000).all fun n => decide ((Vbndaa.decimalBytes n).length ≤ 3)) = true := by decide +kernel
  exact of_decide_eq_true (List.all_eq_true.mp key n (List.mem_range.mpr (by omega)))
theorem evO_if {G : En} {W : Wd} {t : TT} {ta tb : TE} {b : Bool} {ds : List Dsc} (hc : EvT t G W b) (h1 : b = true → EvO ta G W ds) (h2 : b = false → EvO tb G W ds) : EvO (tIf t ta tb) G W ds := fun σ W1 l s Q q => hc σ W1 l s _ fun W2 l2 => by
  cases b with
  | true => exact h1 rfl σ W2 (l.trans l2) (s.mono l2) Q fun p vs W3 l3 n f hp a => q p vs W3 (l2.trans l3) (l2.h.free n) f hp a
  | false => exact h2 rfl σ W2 (l.trans l2) (s.mono l2) Q fun p vs W3 l3 n f hp a => q p vs W3 (l2.trans l3) (l2.h.free n) f hp a
def sp_card_text (K : PySem.W.Frag) : Sp := spOf (fun a : Nat => CardOk a) (fun a => [dN a]) (fun a => dS (S (Vbndao.printCard a)))
/-! card_text -/
def N_card_text : List Str := ["card"]
theorem sc_card_text : FnScope ["card"] ["card"] (defScope s_card_text) := ⟨rfl, rfl, rfl, by decide +kernel, rfl, by decide +kernel, by decide +kernel⟩
theorem nm_card_text : nmB ["card"] (defScope s_card_text) [0] [] ["SUITS", "str"] = true := by decide +kernel
def t_card_text (K : PySem.W.Frag) : TS := tRet (tOp oCatS (tOp rIxS (tC (.str "abcd")) (tOp oDiv (tVar 0) (tC (.int 16)))) (tCB (cStrI) (tCons (tOp oMod (tVar 0) (tC (.int 16))) (tNil))))
theorem dv_card_text {X : Cx} (o0 : On fa X ["card"] (defScope s_card_text)) (hf : ∀ x, X.fn x = true) : PSs X (defBody s_card_text) (t_card_text X.K) := by
  have n0 := nm_card_text
  exact pss_one (ps_ret (pe_op op_add_str (pe_ix ix_str (ags o0 n0 (gm 0 rfl) f_SUITS) (pe_op op_fdiv (av o0 n0 0 (gm 0 rfl) rfl) (pe_int)) (fun _ _ => rfl)) (act o0 n0 call_str_int (by decide +kernel) (pa_cons (pe_op op_mod (av o0 n0 0 (gm 0 rfl) rfl) (pe_int)) (pa_nil)) (gm 1 rfl) f_str)))
theorem ev_card_text (C : Ctx K mg) : ∀ a : Nat, CardOk a → ∀ W, Rt (t_card_text K) (envOf ["card"] [dN a]) W (rD (dS (S (Vbndao.printCard a)))) := fun c ⟨h1, h2, h3⟩ W => by
  have e : Vbndao.printCard c = [97 + c / 16] ++ Vbndaa.decimalBytes (c % 16) := rfl
  rw [e, ← S_cat, ← int_S]
  have hl := dec_len (n := c % 16) (by omega)
  refine rt_ret (ev_catS rfl (ev_ixS (c := 97 + c / 16) (j := c / 16) ev_c (ev_divN (k := 16) ev_var ev_c (by decide)) (by decide) ?_) (ev_strI (ev_modN (k := 16) ev_var ev_c (by decide)) (small_log (by omega))) ?_)
  · have : c / 16 = 0 ∨ c / 16 = 1 ∨ c / 16 = 2 ∨ c / 16 = 3 := by omega
    rcases this with h | h | h | h <;> rw [h] <;> decide
  · rw [int_S]
    refine szk ?_
    show 1 + (S (Vbndaa.decimalBytes (c % 16))).length ≤ _
    rw [S_len]
    omega
theorem ok_card_text {P : Program} {w : World} {K : PySem.W.Frag} {mg : Str → Option Value} {base : Heap} (C : Ctx K mg) : Ok P w K mg base 1 "card_text" ["card"] (sp_card_text K) :=
  ok_gen C 15 rfl rfl sc_card_text fg_card_text (fun _ _ _ _ _ _ hr o => dv_card_text o (fun _ => rfl)) (fun _ _ _ _ _ _ us hl => match us, hl with | [_], _ => rfl) (len_of fun _ => rfl) fun _ _ _ _ h => reads_of (ev_card_text C) h
def numL (nm : List Nat) (o : Option Nat) : List (List Nat) := o.toList.map fun n => nm ++ 32 :: Vbndaa.decimalBytes n
def sp_number_lines (K : PySem.W.Frag) : Sp := spOwn (fun a : List Nat × Option Nat => a.1.length ≤ 100 ∧ ∀ n, a.2 = some n → n ≤ 999) (fun a => [dS (S a.1), dI (optI a.2)]) (fun a => (numL a.1 a.2).map fun l => dS (S l))
/-! number_lines -/
def N_number_lines : List Str := ["name", "number"]
theorem sc_number_lines : FnScope ["name", "number"] ["name", "number"] (defScope s_number_lines) := ⟨rfl, rfl, rfl, by decide +kernel, rfl, by decide +kernel, by decide +kernel⟩
theorem nm_number_lines : nmB ["name", "number"] (defScope s_number_lines) [1, 0] [] ["NOT_GIVEN"] = true := by decide +kernel
def t_number_lines (K : PySem.W.Frag) : TS := tRet (tIf (tTest (tOp rEq (tVar 1) (tC (.int (-1))))) (tLst (tNil)) (tLst (tCons (tJd [tFmt (tVar 0), tC (.str " "), tFmt (tVar 1)]) (tNil))))
theorem dv_number_lines {X : Cx} (o0 : On fa X ["name", "number"] (defScope s_number_lines)) (hf : ∀ x, X.fn x = true) : PSs X (defBody s_number_lines) (t_number_lines X.K) := by
  have n0 := nm_number_lines
  exact pss_one (ps_ret (pe_ifExp (pt_cmpR op_eq (av o0 n0 1 (gm 0 rfl) rfl) (agi o0 n0 (gm 0 rfl) f_NOT_GIVEN) (nomark _)) (pe_lst (pa_nil)) (pe_lst (pa_cons (pe_joined (.cons (pe_fmt (av o0 n0 0 (gm 1 rfl) rfl)) (.cons (pe_str) (.cons (pe_fmt (av o0 n0 1 (gm 0 rfl) rfl)) (.nil))))) (pa_nil)))))
theorem ev_join3 {G : En} {W : Wd} {ta tb tc : TE} {a b c : List Nat} (h1 : Ev ta G W (dS (S a))) (h2 : Ev tb G W (dS (S b))) (h3 : Ev tc G W (dS (S c))) (hl : a.length + b.length + c.length ≤ 100000) : Ev (tJd [ta, tb, tc]) G W (dS (S (a ++ b ++ c))) := by
  refine (ev_joined (.cons h1 (.cons h2 (.cons h3 .nil))) ?_).to ?_
  · rw [List.map_cons, List.map_cons, List.map_cons, List.map_nil, List.sum_cons, List.sum_cons, List.sum_cons, List.sum_nil, S_len, S_len, S_len]
    exact szk (by omega)
  · show dS (((Str.empty ++ S a) ++ S b) ++ S c) = _
    rw [show (Str.empty : Str) = S [] from rfl, S_cat, S_cat, S_cat, List.nil_append]
theorem ev_join4 {G : En} {W : Wd} {ta tb tc td : TE} {a b c d : List Nat} (h1 : Ev ta G W (dS (S a))) (h2 : Ev tb G W (dS (S b))) (h3 : Ev tc G W (dS (S c))) (h4 : Ev td G W (dS (S d))) (hl : a.length + b.length + c.length + d.length ≤ 100000) : Ev (tJd [ta, tb, tc, td]) G W (dS (S (a ++ b ++ c ++ d))) := by
  refine (ev_joined (.cons h1 (.cons h2 (.cons h3 (.cons h4 .nil)))) ?_).to ?_
  · rw [List.map_cons, List.map_cons, List.map_cons, List.map_cons, List.map_nil, List.sum_cons, List.sum_cons, List.sum_cons, List.sum_cons, List.sum_nil, S_len, S_len, S_len, S_len]
    exact szk (by omega)
  · show dS ((((Str.empty ++ S a) ++ S b) ++ S c) ++ S d) = _
    rw [show (Str.empty : Str) = S [] from rfl, S_cat, S_cat, S_cat, S_cat, List.nil_append]
theorem ev_fmtN {G : En} {W : Wd} {te : TE} {n : Nat} (h : Ev te G W (dN n)) (hn : n ≤ 999) : Ev (tFmt te) G W (dS (S (Vbndaa.decimalBytes n))) := (ev_fmtI h (small_log (by omega))).to (by rw [int_S])
theorem ev_number_lines (C : Ctx K mg) : ∀ a : List Nat × Option Nat, (a.1.length ≤ 100 ∧ ∀ n, a.2 = some n → n ≤ 999) → ∀ W, Rt (t_number_lines K) (envOf ["name", "number"] [dS (S a.1), dI (optI a.2)]) W (rO W ((numL a.1 a.2).map fun l => dS (S l))) := fun ⟨nm, o⟩ ⟨h1, h2⟩ W => by
  dsimp only at h1 h2 ⊢
  refine rt_retO (evO_if ((et_test (ev_eqI ev_var ev_c)).to (opt_none o)) (fun e => ?_) fun e => ?_)
  · rw [Option.isNone_iff_eq_none] at e
    subst e
    exact evO_lst ea_nil
  · cases o with
    | none => cases e
    | some n =>
      have hn := h2 n rfl
      have hd := dec_len hn
      refine evO_lst (ea_cons ((ev_join3 (b := [32]) (ev_fmtS ev_var (by rw [S_len]; exact szk (by omega))) (ev_c.to (by rw [str_S]; rfl)) (ev_fmtN ev_var hn) (by show _ + 1 + _ ≤ _; omega)).to ?_) ea_nil)
      rw [List.append_assoc]
      rfl
theorem ok_number_lines {P : Program} {w : World} {K : PySem.W.Frag} {mg : Str → Option Value} {base : Heap} (C : Ctx K mg) : Ok P w K mg base 1 "number_lines" ["name", "number"] (sp_number_lines K) :=
  ok_gen C 16 rfl rfl sc_number_lines fg_number_lines (fun _ _ _ _ _ _ hr o => dv_number_lines o (fun _ => rfl)) (fun _ _ _ _ _ _ us hl => match us, hl with | [_, _], _ => rfl) (len_own fun _ => rfl) fun _ _ _ _ h => reads_own (ev_number_lines C) h
def handL (s : Nat) (h : List Nat) : List Nat := Vbndaa.joinWithSpaces ([Vbndao.toBytes "hand", Vbndaa.decimalBytes s] ++ h.map Vbndao.printCard)
def sp_hand_line (K : PySem.W.Frag) : Sp := spOf (fun a : Nat × List Nat => a.1 ≤ 999 ∧ a.2 ≠ [] ∧ a.2.length ≤ 100 ∧ ∀ c ∈ a.2, CardOk c) (fun a => [dN a.1, dNs a.2]) (fun a => dS (S (handL a.1 a.2)))
/-! hand_line -/
def N_hand_line : List Str := ["side", "hand", "card"]
theorem sc_hand_line : FnScope ["side", "hand", "card"] ["side", "hand"] (defScope s_hand_line) := ⟨rfl, rfl, rfl, by decide +kernel, rfl, by decide +kernel, by decide +kernel⟩
theorem nm_hand_line : nmB ["side", "hand", "card"] (defScope s_hand_line) [0, 1] [] [] = true := by decide +kernel
def t_hand_line (K : PySem.W.Frag) : TS := tRet (tOp oCatS (tJd [tC (.str "hand "), tFmt (tVar 0), tC (.str " ")]) (tM1 (rJoin K) (tC (.str " ")) (tLc (iList K (tVar 1)) (gName 2) (tYes) (tCall (sp_card_text K) [] E0 (tCons (tVar 2) (tNil))) [2])))
theorem dv_hand_line {X : Cx} (o0 : On fa X ["side", "hand", "card"] (defScope s_hand_line)) (hf : ∀ x, X.fn x = true) (c_card_text : Cal X "card_text" (sp_card_text X.K)) : PSs X (defBody s_hand_line) (t_hand_line X.K) := by
  have n0 := nm_hand_line
  exact pss_one (ps_ret (pe_op op_add_str (pe_joined (.cons (pe_str) (.cons (pe_fmt (av o0 n0 0 (gm 0 rfl) rfl)) (.cons (pe_str) (.nil))))) (pe_join (pe_str) (pe_lc (own := [("card", 2)]) o0.calm o0.nd (pi_list (av o0 n0 1 (gm 1 rfl) rfl)) (o0.ok (own := [("card", 2)]) (by decide +kernel)) (fun s1 H1 C1 l1 p1 => let o1 := o0.blk s1 H1 _ C1 l1 p1; agb o1 2 rfl (by decide +kernel)) (fun _ _ _ _ _ => pts_nil) (fun s1 H1 C1 l1 p1 => (fun (n1 : nmB _ (relS _ _) [2] [] ["card_text"] = true) => let o1 := o0.blk s1 H1 _ C1 l1 p1; acall o1 n1 c_card_text.blk (pa_cons (av o1 n1 2 (gm 0 rfl) rfl) (pa_nil)) (gm 0 rfl)) (by decide +kernel))))))
theorem joinS_eq : ∀ ws : List (List Nat), TL.joinL [32] ws = Vbndaa.joinWithSpaces ws
  | [] => rfl
  | [w] => rfl
  | w :: x :: r => by
    show w ++ ([32] ++ TL.joinL [32] (x :: r)) = w ++ (32 :: Vbndaa.joinWithSpaces (x :: r))
    rw [joinS_eq (x :: r)]
    rfl
theorem hand_join {s : Nat} {h : List Nat} (hne : h ≠ []) : handL s h = (Vbndao.toBytes "hand " ++ Vbndaa.decimalBytes s ++ [32]) ++ Vbndaa.joinWithSpaces (h.map Vbndao.printCard) := by
  cases h with
  | nil => exact absurd rfl hne
  | cons c r =>
    unfold handL
    rw [List.map_cons]
    show Vbndao.toBytes "hand" ++ (32 :: (Vbndaa.decimalBytes s ++ (32 :: Vbndaa.joinWithSpaces (Vbndao.printCard c :: r.map Vbndao.printCard)))) = _
    rw [show Vbndao.toBytes "hand " = Vbndao.toBytes "hand" ++ [32] by decide]
    simp only [List.append_assoc, List.cons_append, List.nil_append]
theorem print_len {c : Nat} (h : CardOk c) : (Vbndao.printCard c).length ≤ 4 := by
  have := dec_len (n := c % 16) (by have := h.2.1; omega)
  show (Vbndaa.decimalBytes (c % 16)).length + 1 ≤ 4
  omega
theorem sum_le {l : List Nat} {m : Nat} (h : ∀ x ∈ l, x ≤ m) : l.sum ≤ l.length * m := by
  induction l with
  | nil => simp
  | cons a r ih =>
    rw [List.sum_cons, List.length_cons, Nat.succ_mul]
    have := ih fun x hx => h x (List.mem_cons_of_mem _ hx)
    have := h a List.mem_cons_self
    omega
theorem joinS_len : ∀ ws : List (List Nat), (Vbndaa.joinWithSpaces ws).length ≤ (ws.map (·.length)).sum + ws.length
  | [] => Nat.le_refl _
  | [w] => by show w.length ≤ _; simp
  | w :: x :: r => by
    have := joinS_len (x :: r)
    show (w ++ (32 :: Vbndaa.joinWithSpaces (x :: r))).length ≤ _
    rw [List.map_cons, List.sum_cons, List.length_append, List.length_cons, List.length_cons]
    omega
theorem ev_hand_line (C : Ctx K mg) : ∀ a : Nat × List Nat, (a.1 ≤ 999 ∧ a.2 ≠ [] ∧ a.2.length ≤ 100 ∧ ∀ c ∈ a.2, CardOk c) → ∀ W, Rt (t_hand_line K) (envOf ["side", "hand", "card"] [dN a.1, dNs a.2]) W (rD (dS (S (handL a.1 a.2)))) := fun ⟨s, h⟩ ⟨h1, h2, h3, h4⟩ W => by
  dsimp only at h1 h2 h3 h4 ⊢
  rw [hand_join h2, ← S_cat]
  have hd := dec_len h1
  have hs : ((h.map Vbndao.printCard).map (·.length)).sum ≤ h.length * 4 := by
    have := sum_le (l := (h.map Vbndao.printCard).map (·.length)) (m := 4) fun x hx => by
      obtain ⟨y, hy, rfl⟩ := List.mem_map.mp hx
      obtain ⟨c, hc, rfl⟩ := List.mem_map.mp hy
      exact print_len (h4 c hc)
    rwa [List.length_map, List.length_map] at this
  have hj := joinS_len (h.map Vbndao.printCard)
  rw [List.length_map] at hj
  have hj2 := Nat.le_trans hj (Nat.add_le_add_right hs _)
  refine rt_ret (ev_catS rfl (ev_join3 (a := Vbndao.toBytes "hand ") (c := [32]) (ev_c.to (by rw [str_S]; rfl)) (ev_fmtN ev_var h1) (ev_c.to (by rw [str_S]; rfl)) (by show 5 + _ + 1 ≤ _; omega)) (Ev.to (ev_join (y := " ") (ys := h.map fun c => S (Vbndao.printCard c)) ev_c ((EvO.ev (evO_lcm h dN (fun c => dS (S (Vbndao.printCard c))) (fun c G => G.set 2 (some (.pl (dN c)))) [2] (ei_list ev_var) (fun _ _ => tg_name) (fun c hc => ev_call c (h4 c hc) (ea_cons ev_var ea_nil)) (fun j h => h) (szl (by omega)))).to (by rw [List.map_map]; rfl)) ?_) ?_) ?_)
  · rw [List.map_map, List.length_map]
    have e : ((fun x : Str => x.length) ∘ fun c => S (Vbndao.printCard c)) = fun c => (Vbndao.printCard c).length := by funext c; exact S_len _
    rw [e]
    rw [List.map_map] at hs
    have : (h.map fun c => (Vbndao.printCard c).length).sum ≤ h.length * 4 := hs
    show _ + h.length * 1 ≤ _
    omega
  · rw [show (" " : Str) = S [32] from by rw [str_S]; rfl, show (h.map fun c => S (Vbndao.printCard c)) = (h.map Vbndao.printCard).map S by rw [List.map_map]; rfl, join_S, joinS_eq]
  · rw [S_len, S_len, List.length_append, List.length_append]
    exact szk (by show 5 + _ + 1 + _ ≤ _; omega)
theorem ok_hand_line {P : Program} {w : World} {K : PySem.W.Frag} {mg : Str → Option Value} {base : Heap} (C : Ctx K mg) : Ok P w K mg base 2 "hand_line" ["side", "hand"] (sp_hand_line K) :=
  ok_gen C 17 rfl rfl sc_hand_line fg_hand_line (fun _ _ _ _ _ _ hr o => dv_hand_line o (fun _ => rfl) ((ok_card_text C).cal hr (by decide))) (fun _ _ _ _ _ _ us hl => match us, hl with | [_, _], _ => rfl) (len_of fun _ => rfl) fun _ _ _ _ h => reads_of (ev_hand_line C) h
def linesOf (x : Deal) : List (List Nat) := (x.trump.toList.map fun k => Vbndaa.joinWithSpaces [Vbndao.toBytes "trump", [97 + k]]) ++ ((if x.mustRuff = true then [Vbndao.toBytes "ruff"] else []) ++ (numL (Vbndao.toBytes "trick") x.trickValue ++ (numL (Vbndao.toBytes "last") x.lastTrickBonus ++
  ((x.rankValues.map fun y => Vbndaa.joinWithSpaces [Vbndao.toBytes "worth", Vbndaa.decimalBytes y.1, Vbndaa.decimalBytes y.2]) ++ (numL (Vbndao.toBytes "lead") x.firstLeader ++ x.seats.map fun s => handL s.side s.cards)))))
theorem print_lines (x : Deal) : Vbndao.printDeal x = (linesOf x).flatMap fun l => l ++ [10] := rfl
theorem nodup_lt : ∀ (n : Nat) {l : List Nat}, l.Nodup → (∀ a ∈ l, a < n) → l.length ≤ n
  | 0, l, _, h => by
    cases l with
    | nil => exact Nat.le_refl _
    | cons a r => exact absurd (h a List.mem_cons_self) (Nat.not_lt_zero _)
  | n + 1, l, nd, h => by
    have ih := nodup_lt n (l := l.filter fun a => decide (a ≠ n)) (nd.filter _) fun a ha => by
      have := (List.mem_filter.mp ha)
      have h2 := h a this.1
      have h3 := of_decide_eq_true this.2
      omega
    have key : ∀ l : List Nat, l.Nodup → l.length ≤ (l.filter fun a => decide (a ≠ n)).length + 1 := by
      intro l
      induction l with
      | nil => intro _; exact Nat.zero_le _
      | cons a r ihr =>
        intro nd
        obtain ⟨h1, h2⟩ := List.nodup_cons.mp nd
        by_cases e : a = n
        · subst e
          have : (r.filter fun b => decide (b ≠ a)) = r := List.filter_eq_self.mpr fun b hb => decide_eq_true fun e => h1 (e ▸ hb)
          rw [List.filter_cons, if_neg (by simp), this]
          exact Nat.le_refl _
        · rw [List.filter_cons, if_pos (decide_eq_true e), List.length_cons, List.length_cons]
          have := ihr h2
          omega
    have := key l nd
    omega
theorem ranks_len {x : Deal} (o : DealOk x) : x.rankValues.length ≤ 14 := by
  have := nodup_lt 14 o.ranksNd fun a ha => by
    obtain ⟨y, hy, rfl⟩ := List.mem_map.mp ha
    have := o.ranks y hy
    omega
  rwa [List.length_map] at this
theorem opt_len {α : Type} (o : Option α) : o.toList.length ≤ 1 := by cases o <;> simp
theorem lines_len {x : Deal} (o : DealOk x) : (linesOf x).length ≤ 25 := by
  have h1 := ranks_len o
  have h2 := o.n4
  have a1 := opt_len x.trump
  have a2 := opt_len x.trickValue
  have a3 := opt_len x.lastTrickBonus
  have a4 := opt_len x.firstLeader
  have a5 : (if x.mustRuff = true then [Vbndao.toBytes "ruff"] else []).length ≤ 1 := by split <;> simp
  unfold linesOf numL
  simp only [List.length_append, List.length_map]
  omega
theorem numL_ok {nm : List Nat} {o : Option Nat} (hn : nm.length ≤ 10) (h : ∀ n, o = some n → n ≤ 999) : ∀ l ∈ numL nm o, l.length ≤ 200 := by
  intro l hl
  cases o with
  | none => cases hl
  | some n =>
    have e : l = nm ++ 32 :: Vbndaa.decimalBytes n := by simpa [numL] using hl
    have := dec_len (h n rfl)
    rw [e, List.length_append, List.length_cons]
    omega
theorem lines_ok {x : Deal} (o : DealOk x) : ∀ l ∈ linesOf x, l.length ≤ 200 := by
  intro l hl
  unfold linesOf at hl
  simp only [List.mem_append] at hl
  rcases hl with hl | hl | hl | hl | hl | hl | hl
  · obtain ⟨k, _, rfl⟩ := List.mem_map.mp hl
    show 5 + 1 + 1 ≤ 200
    omega
  · split at hl
    · rw [List.mem_singleton.mp hl]; decide
    · cases hl
  · exact numL_ok (by decide) (fun n h => by have := o.nums.1 n h; omega) l hl
  · exact numL_ok (by decide) (fun n h => by have := o.nums.2.1 n h; omega) l hl
  · obtain ⟨y, hy, rfl⟩ := List.mem_map.mp hl
    have h := o.ranks y hy
    have d1 := dec_len (n := y.1) (by omega)
    have d2 := dec_len (n := y.2) (by omega)
    show (Vbndao.toBytes "worth" ++ (32 :: (Vbndaa.decimalBytes y.1 ++ (32 :: Vbndaa.decimalBytes y.2)))).length ≤ 200
    rw [List.length_append, List.length_cons, List.length_append, List.length_cons]
    have : (Vbndao.toBytes "worth").length = 5 := by decide
    omega
  · exact numL_ok (by decide) (fun n h => by have := o.nums.2.2 n h; omega) l hl
  · obtain ⟨s, hs, rfl⟩ := List.mem_map.mp hl
    have h1 := o.side s hs
    have h2 := o.len s hs
    have h3 := o.most
    have hc : ∀ c ∈ s.cards, CardOk c := fun c hc => o.card c (List.mem_flatMap.mpr ⟨s, hs, hc⟩)
    have hsum : ((s.cards.map Vbndao.printCard).map (·.length)).sum ≤ s.cards.length * 4 := by
      have := sum_le (l := (s.cards.map Vbndao.printCard).map (·.length)) (m := 4) fun x hx => by
        obtain ⟨y, hy, rfl⟩ := List.mem_map.mp hx
        obtain ⟨c, hc', rfl⟩ := List.mem_map.mp hy
        exact print_len (hc c hc')
      rwa [List.length_map, List.length_map] at this
    have hj := joinS_len ([Vbndao.toBytes "hand", Vbndaa.decimalBytes s.side] ++ s.cards.map Vbndao.printCard)
    have hd := dec_len (n := s.side) (by omega)
    rw [List.map_append, List.sum_append, List.length_append, List.length_map] at hj
    have hx : (List.map (fun x => x.length) [Vbndao.toBytes "hand", Vbndaa.decimalBytes s.side]).sum ≤ 7 := by
      show 4 + ((Vbndaa.decimalBytes s.side).length + 0) ≤ 7
      omega
    have hj2 := Nat.le_trans hj (Nat.add_le_add_right (Nat.add_le_add hx hsum) _)
    have : [Vbndao.toBytes "hand", Vbndaa.decimalBytes s.side].length = 2 := rfl
    unfold handL
    omega
def sp_printed_lines (K : PySem.W.Frag) : Sp := spOf (fun a : Deal => DealOk a) (fun a => [dSheet K a]) (fun a => dL ((linesOf a).map fun l => dS (S l)))
/-! printed_lines -/
def N_printed_lines : List Str := ["sheet", "found", "side", "hand", "rank", "points"]
theorem sc_printed_lines : FnScope ["sheet", "found", "side", "hand", "rank", "points"] ["sheet"] (defScope s_printed_lines) := ⟨rfl, rfl, rfl, by decide +kernel, rfl, by decide +kernel, by decide +kernel⟩
theorem nm_printed_lines : nmB ["sheet", "found", "side", "hand", "rank", "points"] (defScope s_printed_lines) [0, 1, 2, 3] [1, 2, 3] ["NOT_GIVEN", "SUITS", "number_lines", "zip", "hand_line"] = true := by decide +kernel
def t_printed_lines (K : PySem.W.Frag) : TS := tSeq (tAsg (tIf (tTest (tOp rEq (tFld K (tVar 0) "trump") (tC (.int (-1))))) (tLst (tNil)) (tLst (tCons (tOp oCatS (tC (.str "trump ")) (tOp rIxS (tC (.str "abcd")) (tFld K (tVar 0) "trump"))) (tNil)))) (gName 1)) (tSeq (tIfS (tB (tFld K (tVar 0) "is_ruff")) (tDrop (tBM K "list" rAppend (tVar 1) (tCons (tC (.str "ruff")) (tNil)))) (tNext)) (tSeq (tDrop (tBM K "list" rExtend (tVar 1) (tCons (tCall (sp_number_lines K) [] E0 (tCons (tC (.str "trick")) (tCons (tFld K (tVar 0) "trick") (tNil)))) (tNil)))) (tSeq (tDrop (tBM K "list" rExtend (tVar 1) (tCons (tCall (sp_number_lines K) [] E0 (tCons (tC (.str "last")) (tCons (tFld K (tVar 0) "last") (tNil)))) (tNil)))) (tSeq (tDrop (tBM K "list" rExtend (tVar 1) (tCons (tLc (iList K (tFld K (tVar 0) "worths")) (gTup K 2 (gCons (gName 4) (gCons (gName 5) (gNil)))) (tYes) (tJd [tC (.str "worth "), tFmt (tVar 4), tC (.str " "), tFmt (tVar 5)]) [4, 5]) (tNil)))) (tSeq (tDrop (tBM K "list" rExtend (tVar 1) (tCons (tCall (sp_number_lines K) [] E0 (tCons (tC (.str "lead")) (tCons (tFld K (tVar 0) "lead") (tNil)))) (tNil)))) (tSeq (tFor (iZip K (tCons (tFld K (tVar 0) "sides") (tCons (tFld K (tVar 0) "hands") (tNil)))) (gTup K 2 (gCons (gName 2) (gCons (gName 3) (gNil)))) (tDrop (tBM K "list" rAppend (tVar 1) (tCons (tCall (sp_hand_line K) [] E0 (tCons (tVar 2) (tCons (tVar 3) (tNil)))) (tNil))))) (tRet (tVar 1))))))))
theorem dv_printed_lines {X : Cx} (o0 : On fa X ["sheet", "found", "side", "hand", "rank", "points"] (defScope s_printed_lines)) (hf : ∀ x, X.fn x = true) (c_number_lines : Cal X "number_lines" (sp_number_lines X.K)) (c_hand_line : Cal X "hand_line" (sp_hand_line X.K)) : PSs X (defBody s_printed_lines) (t_printed_lines X.K) := by
  have n0 := nm_printed_lines
  exact pss_cons (aset o0 n0 hf 1 (pe_ifExp (pt_cmpR op_eq (pe_fld (av o0 n0 0 (gm 0 rfl) rfl) rfl) (agi o0 n0 (gm 0 rfl) f_NOT_GIVEN) (nomark _)) (pe_lst (pa_nil)) (pe_lst (pa_cons (pe_op op_add_str (pe_str) (pe_ix ix_str (ags o0 n0 (gm 1 rfl) f_SUITS) (pe_fld (av o0 n0 0 (gm 0 rfl) rfl) rfl) (fun _ _ => rfl))) (pa_nil)))) (gm 0 rfl) rfl) (pss_cons (ps_if (pt_val (pe_fld (av o0 n0 0 (gm 0 rfl) rfl) rfl)) (pss_one (ps_expr (pe_bm PySem.F.plainAttrs_list PySem.F.slot_list_append PySem.F.type_list_append mt_append (av o0 n0 1 (gm 1 rfl) rfl) (pa_cons (pe_str) (pa_nil))))) (pss_nil)) (pss_cons (ps_expr (pe_bm PySem.F.plainAttrs_list PySem.F.slot_list_extend PySem.F.type_list_extend mt_extend (av o0 n0 1 (gm 1 rfl) rfl) (pa_cons (acall o0 n0 c_number_lines (pa_cons (pe_str) (pa_cons (pe_fld (av o0 n0 0 (gm 0 rfl) rfl) rfl) (pa_nil))) (gm 2 rfl)) (pa_nil)))) (pss_cons (ps_expr (pe_bm PySem.F.plainAttrs_list PySem.F.slot_list_extend PySem.F.type_list_extend mt_extend (av o0 n0 1 (gm 1 rfl) rfl) (pa_cons (acall o0 n0 c_number_lines (pa_cons (pe_str) (pa_cons (pe_fld (av o0 n0 0 (gm 0 rfl) rfl) rfl) (pa_nil))) (gm 2 rfl)) (pa_nil)))) (pss_cons (ps_expr (pe_bm PySem.F.plainAttrs_list PySem.F.slot_list_extend PySem.F.type_list_extend mt_extend (av o0 n0 1 (gm 1 rfl) rfl) (pa_cons (pe_lc (own := [("rank", 4), ("points", 5)]) o0.calm o0.nd (pi_list (pe_fld (av o0 n0 0 (gm 0 rfl) rfl) rfl)) (o0.ok (own := [("rank", 4), ("points", 5)]) (by decide +kernel)) (fun s1 H1 C1 l1 p1 => let o1 := o0.blk s1 H1 _ C1 l1 p1; pg_tup o1.calm (pgs_cons (agb o1 4 rfl (by decide +kernel)) (pgs_cons (agb o1 5 rfl (by decide +kernel)) (pgs_nil)))) (fun _ _ _ _ _ => pts_nil) (fun s1 H1 C1 l1 p1 => (fun (n1 : nmB _ (relS _ _) [4, 5] [] [] = true) => let o1 := o0.blk s1 H1 _ C1 l1 p1; pe_joined (.cons (pe_str) (.cons (pe_fmt (av o1 n1 4 (gm 0 rfl) rfl)) (.cons (pe_str) (.cons (pe_fmt (av o1 n1 5 (gm 1 rfl) rfl)) (.nil)))))) (by decide +kernel))) (pa_nil)))) (pss_cons (ps_expr (pe_bm PySem.F.plainAttrs_list PySem.F.slot_list_extend PySem.F.type_list_extend mt_extend (av o0 n0 1 (gm 1 rfl) rfl) (pa_cons (acall o0 n0 c_number_lines (pa_cons (pe_str) (pa_cons (pe_fld (av o0 n0 0 (gm 0 rfl) rfl) rfl) (pa_nil))) (gm 2 rfl)) (pa_nil)))) (pss_cons (ps_for o0.nev o0.calm (pi_zip (o0.gl n0 (gm 3 rfl)) (o0.gb.free f_zip) (pa_cons (pe_fld (av o0 n0 0 (gm 0 rfl) rfl) rfl) (pa_cons (pe_fld (av o0 n0 0 (gm 0 rfl) rfl) rfl) (pa_nil)))) (pg_tup o0.calm (pgs_cons (ag o0 n0 hf 2 (gm 1 rfl) rfl) (pgs_cons (ag o0 n0 hf 3 (gm 2 rfl) rfl) (pgs_nil)))) (pss_one (ps_expr (pe_bm PySem.F.plainAttrs_list PySem.F.slot_list_append PySem.F.type_list_append mt_append (av o0 n0 1 (gm 1 rfl) rfl) (pa_cons (acall o0 n0 c_hand_line (pa_cons (av o0 n0 2 (gm 2 rfl) rfl) (pa_cons (av o0 n0 3 (gm 3 rfl) rfl) (pa_nil))) (gm 4 rfl)) (pa_nil)))))) (pss_one (ps_ret (av o0 n0 1 (gm 1 rfl) rfl)))))))))
abbrev dLs (l : List (List Nat)) : List Dsc := l.map fun y => dS (S y)
theorem nx_extL {G : En} {W : Wd} {te : TE} {i : Nat} {L M : List (List Nat)} (hG : G[i]? = some (some (.ow (ownL W (dLs L))))) (hp : plainE (G.set i none) = true) (h : Ev te G W (dL (dLs M))) (hl : L.length + M.length ≤ 100000) : Nx (tDrop (tBM K "list" rExtend (tVar i) (tCons te tNil))) G W (G.set i (some (.ow (ownL W (dLs (L ++ M)))))) := by
  have := nx_ext (K := K) hG hp h (by rw [List.length_map, List.length_map]; exact szk hl)
  rw [show dLs (L ++ M) = dLs L ++ dLs M from List.map_append]
  exact this
theorem nx_appL {G : En} {W : Wd} {te : TE} {i : Nat} {L : List (List Nat)} {y : List Nat} (hG : G[i]? = some (some (.ow (ownL W (dLs L))))) (hp : plainE (G.set i none) = true) (h : Ev te G W (dS (S y))) (hl : L.length ≤ 100000) : Nx (tDrop (tBM K "list" rAppend (tVar i) (tCons te tNil))) G W (G.set i (some (.ow (ownL W (dLs (L ++ [y])))))) := by
  have := nx_app (K := K) hG hp h (by rw [List.length_map]; exact szl hl)
  rw [show dLs (L ++ [y]) = dLs L ++ [dS (S y)] from List.map_append]
  exact this
theorem zip_maps {α β γ : Type} {f : α → β} {g : α → γ} : ∀ {l : List α}, (l.map f).zip (l.map g) = l.map fun a => (f a, g a)
  | [] => rfl
  | a :: r => by rw [List.map_cons, List.map_cons, List.zip_cons_cons, zip_maps, List.map_cons]
theorem ei_zipM {G : En} {W : Wd} {te te2 : TE} {α : Type} {f g : α → Dsc} {l : List α} (h : Ev te G W (dL (l.map f))) (h2 : Ev te2 G W (dL (l.map g))) : EvI (iZip K (tCons te (tCons te2 tNil))) G W (l.map fun a => dT K [f a, g a]) := by
  have h := ei_zip (K := K) h h2 (by rw [List.length_map, List.length_map])
  unfold zipD at h
  rw [zip_maps, List.map_map] at h
  exact h
theorem nx_from {t : TS} {G G' G1 : En} {W : Wd} (e : G = G') (h : Nx t G W G1) : Nx t G' W G1 := e ▸ h
theorem ev_numLines {G : En} {W : Wd} {ta tb : TE} {nm : List Nat} {o : Option Nat} (h1 : nm.length ≤ 100) (h2 : ∀ n, o = some n → n ≤ 999) (ha : Ev ta G W (dS (S nm))) (hb : Ev tb G W (dI (optI o))) : Ev (tCall (sp_number_lines K) [] E0 (tCons ta (tCons tb tNil))) G W (dL (dLs (numL nm o))) := EvO.ev (evO_call (nm, o) ⟨h1, h2⟩ (ea_cons ha (ea_cons hb ea_nil)))
theorem ev_printed_lines (C : Ctx K mg) : ∀ a : Deal, DealOk a → ∀ W, Rt (t_printed_lines K) (envOf ["sheet", "found", "side", "hand", "rank", "points"] [dSheet K a]) W (rD (dL ((linesOf a).map fun l => dS (S l)))) := fun x o W => by
  have hlen := lines_len o
  have hre : linesOf x = ((((((x.trump.toList.map fun k => Vbndaa.joinWithSpaces [Vbndao.toBytes "trump", [97 + k]]) ++ (if x.mustRuff = true then [Vbndao.toBytes "ruff"] else [])) ++ numL (Vbndao.toBytes "trick") x.trickValue) ++ numL (Vbndao.toBytes "last") x.lastTrickBonus) ++
    (x.rankValues.map fun y => Vbndaa.joinWithSpaces [Vbndao.toBytes "worth", Vbndaa.decimalBytes y.1, Vbndaa.decimalBytes y.2])) ++ numL (Vbndao.toBytes "lead") x.firstLeader) ++ x.seats.map fun s => handL s.side s.cards := by
    unfold linesOf
    simp only [List.append_assoc]
  rw [hre] at hlen ⊢
  refine rt_seq (nx_setO (ds := dLs (x.trump.toList.map fun k => Vbndaa.joinWithSpaces [Vbndao.toBytes "trump", [97 + k]])) (evO_if ((et_test (ev_eqI (evs C ev_var fn_Sheet_trump rfl) ev_c)).to (opt_none _)) (fun e => ?_) fun e => ?_)) ?_
  · rw [Option.isNone_iff_eq_none] at e
    rw [e]
    exact evO_lst ea_nil
  · cases ht : x.trump with
    | none => rw [ht] at e; cases e
    | some k =>
      have hk := o.trump k ht
      refine evO_lst (ea_cons ((ev_catS (x := S (Vbndao.toBytes "trump ")) (y := S [97 + k]) rfl (ev_c.to (by rw [str_S]; rfl)) (ev_ixS (c := 97 + k) (j := k) ev_c (Ev.to (evs C (x := x) ev_var fn_Sheet_trump rfl) (by rw [ht]; rfl)) (by decide) ?_) (by rw [S_len, S_len]; exact szk (by show 6 + 1 ≤ _; omega))).to ?_) ea_nil)
      · have : k = 0 ∨ k = 1 ∨ k = 2 ∨ k = 3 := by omega
        rcases this with h | h | h | h <;> rw [h] <;> decide
      · rw [S_cat]
        rfl
  generalize (x.trump.toList.map fun k => Vbndaa.joinWithSpaces [Vbndao.toBytes "trump", [97 + k]]) = L0 at hlen ⊢
  refine rt_seq (G1 := [some (.pl (dSheet K x)), some (.ow (ownL W (dLs (L0 ++ (if x.mustRuff = true then [Vbndao.toBytes "ruff"] else []))))), none, none, none, none]) ?_ ?_
  · by_cases e : x.mustRuff = true
    · rw [if_pos e]
      refine nx_ifT (et_B ((evs C ev_var fn_Sheet_is_ruff rfl).to (congrArg dB e))) (nx_to (nx_app (i := 1) rfl rfl (ev_c (v := .str "ruff")) (by rw [List.length_map]; simp only [List.length_append] at hlen; exact szl (by omega))) ?_)
      rw [str_S]
      unfold dLs
      rw [List.map_append]
      rfl
    · rw [if_neg e, List.append_nil]
      exact nx_ifF (et_B ((evs C ev_var fn_Sheet_is_ruff rfl).to (congrArg dB (Bool.not_eq_true _ ▸ e)))) nx_skip
  generalize L0 ++ (if x.mustRuff = true then [Vbndao.toBytes "ruff"] else []) = L1 at hlen ⊢
  refine rt_seq (nx_extL (i := 1) (L := L1) rfl rfl (ev_numLines (nm := Vbndao.toBytes "trick") (by decide) (fun n h => by have := o.nums.1 n h; omega) (ev_c.to (by rw [str_S]; rfl)) (evs C (x := x) ev_var fn_Sheet_trick rfl)) (by simp only [List.length_append] at hlen; omega)) ?_
  generalize L1 ++ numL (Vbndao.toBytes "trick") x.trickValue = L2 at hlen ⊢
  refine rt_seq (nx_extL (i := 1) (L := L2) rfl rfl (ev_numLines (nm := Vbndao.toBytes "last") (by decide) (fun n h => by have := o.nums.2.1 n h; omega) (ev_c.to (by rw [str_S]; rfl)) (evs C (x := x) ev_var fn_Sheet_last rfl)) (by simp only [List.length_append] at hlen; omega)) ?_
  generalize L2 ++ numL (Vbndao.toBytes "last") x.lastTrickBonus = L3 at hlen ⊢
  refine rt_seq (nx_extL (i := 1) (L := L3) (M := x.rankValues.map fun y => Vbndaa.joinWithSpaces [Vbndao.toBytes "worth", Vbndaa.decimalBytes y.1, Vbndaa.decimalBytes y.2]) rfl rfl ((EvO.ev (evO_lcm x.rankValues (fun y => dT K [dN y.1, dN y.2]) (fun y => dS (S (Vbndaa.joinWithSpaces [Vbndao.toBytes "worth", Vbndaa.decimalBytes y.1, Vbndaa.decimalBytes y.2]))) (fun y G => (G.set 4 (some (.pl (dN y.1)))).set 5 (some (.pl (dN y.2)))) [4, 5] (ei_list (evs C (x := x) ev_var fn_Sheet_worths rfl)) (fun _ _ => tg_tup (tgs_cons tg_name (tgs_cons tg_name tgs_nil)))
    (fun y hy => (ev_join4 (a := Vbndao.toBytes "worth ") (c := [32]) (ev_c.to (by rw [str_S]; rfl)) (ev_fmtN ev_var (by have := o.ranks y hy; omega)) (ev_c.to (by rw [str_S]; rfl)) (ev_fmtN ev_var (by have := o.ranks y hy; omega)) ?_).to ?_) (fun j h => h) (szl (by have := ranks_len o; omega)))).to ?_) (by simp only [List.length_append] at hlen; omega)) ?_
  · have d1 := dec_len (n := y.1) (by have := o.ranks y hy; omega)
    have d2 := dec_len (n := y.2) (by have := o.ranks y hy; omega)
    show 6 + _ + 1 + _ ≤ _
    omega
  · show dS (S _) = dS (S (Vbndao.toBytes "worth" ++ (32 :: (Vbndaa.decimalBytes y.1 ++ (32 :: Vbndaa.decimalBytes y.2)))))
    rw [show Vbndao.toBytes "worth " = Vbndao.toBytes "worth" ++ [32] by decide]
    simp only [List.append_assoc, List.cons_append, List.nil_append]
  · show _ = dL (List.map (fun y => dS (S y)) (List.map _ _))
    rw [List.map_map]
    rfl
  generalize L3 ++ (x.rankValues.map fun y => Vbndaa.joinWithSpaces [Vbndao.toBytes "worth", Vbndaa.decimalBytes y.1, Vbndaa.decimalBytes y.2]) = L4 at hlen ⊢
  refine rt_seq (nx_extL (i := 1) (L := L4) rfl rfl (ev_numLines (nm := Vbndao.toBytes "lead") (by decide) (fun n h => by have := o.nums.2.2 n h; omega) (ev_c.to (by rw [str_S]; rfl)) (evs C (x := x) ev_var fn_Sheet_lead rfl)) (by simp only [List.length_append] at hlen; omega)) ?_
  generalize L4 ++ numL (Vbndao.toBytes "lead") x.firstLeader = L5 at hlen ⊢
  refine rt_seq (nx_from ?_ (nx_forK x.seats (fun s => dT K [dN s.side, dNs s.cards]) (fun i => [some (.pl (dSheet K x)), some (.ow (ownL W (dLs (L5 ++ (x.seats.take i).map fun s => handL s.side s.cards)))), none, none, none, none]) (fun s G => (G.set 2 (some (.pl (dN s.side)))).set 3 (some (.pl (dNs s.cards)))) [2, 3] [2, 3]
    ?_ (fun _ _ => tg_tup (n := 2) (tgs_cons tg_name (tgs_cons tg_name tgs_nil))) fun i s hs => ?_)) ?_
  · rw [List.take_zero, List.map_nil, List.append_nil]
    rfl
  · have h := ei_zipM (K := K) (G := [some (.pl (dSheet K x)), some (.ow (ownL W (dLs (L5 ++ (x.seats.take 0).map fun s => handL s.side s.cards)))), none, none, none, none]) (W := W) (te := tFld K (tVar 0) "sides") (te2 := tFld K (tVar 0) "hands") (f := fun s : Vbndao.Seat => dN s.side) (g := fun s : Vbndao.Seat => dNs s.cards) (l := x.seats) (Ev.to (evs C (x := x) ev_var fn_Sheet_sides rfl) (by show dL (List.map dN (List.map _ _)) = _; rw [List.map_map]; rfl)) (evs C (x := x) ev_var fn_Sheet_hands rfl)
    exact h
  · have hm := List.mem_of_getElem? hs
    have h1 := o.side s hm
    have h2 := o.len s hm
    have h3 := o.most
    have h4 := o.pos
    refine ⟨_, nx_appL (i := 1) (L := L5 ++ (x.seats.take i).map fun s => handL s.side s.cards) rfl rfl (ev_call (s.side, s.cards) ⟨by show s.side ≤ 999; omega, fun e => by have e : s.cards = [] := e; rw [e] at h2; simp at h2; omega, by show s.cards.length ≤ 100; omega, fun c hc => o.card c (List.mem_flatMap.mpr ⟨s, hm, hc⟩)⟩ (ea_cons ev_var (ea_cons ev_var ea_nil))) ?_, ?_⟩
    · rw [List.length_append, List.length_map, List.length_take]
      simp only [List.length_append, List.length_map] at hlen
      omega
    · rw [take_get hs, List.map_append, ← List.append_assoc]
      rfl
  · rw [List.take_length]
    exact rt_frzV rfl
theorem ok_printed_lines {P : Program} {w : World} {K : PySem.W.Frag} {mg : Str → Option Value} {base : Heap} (C : Ctx K mg) : Ok P w K mg base 3 "printed_lines" ["sheet"] (sp_printed_lines K) :=
  ok_gen C 18 rfl rfl sc_printed_lines fg_printed_lines (fun _ _ _ _ _ _ hr o => dv_printed_lines o (fun _ => rfl) ((ok_number_lines C).cal hr (by decide)) ((ok_hand_line C).cal hr (by decide))) (fun _ _ _ _ _ _ us hl => match us, hl with | [_], _ => rfl) (len_of fun _ => rfl) fun _ _ _ _ h => reads_of (ev_printed_lines C) h
def sp_printed_form (K : PySem.W.Frag) : Sp := spOf (fun a : Deal => DealOk a) (fun a => [dSheet K a]) (fun a => dNs (Vbndao.printDeal a))
/-! printed_form -/
def N_printed_form : List Str := ["sheet", "line"]
theorem sc_printed_form : FnScope ["sheet", "line"] ["sheet"] (defScope s_printed_form) := ⟨rfl, rfl, rfl, by decide +kernel, rfl, by decide +kernel, by decide +kernel⟩
theorem nm_printed_form : nmB ["sheet", "line"] (defScope s_printed_form) [0] [] ["printed_lines", "signs_of"] = true := by decide +kernel
def t_printed_form (K : PySem.W.Frag) : TS := tRet (tCall (sp_signs_of K) [] E0 (tCons (tM1 (rJoin K) (tC (.str "")) (tLc (iList K (tCall (sp_printed_lines K) [] E0 (tCons (tVar 0) (tNil)))) (gName 1) (tYes) (tOp oCatS (tVar 1) (tC (.str "\n"))) [1])) (tNil)))
theorem dv_printed_form {X : Cx} (o0 : On fa X ["sheet", "line"] (defScope s_printed_form)) (hf : ∀ x, X.fn x = true) (c_printed_lines : Cal X "printed_lines" (sp_printed_lines X.K)) (c_signs_of : Cal X "signs_of" (sp_signs_of X.K)) : PSs X (defBody s_printed_form) (t_printed_form X.K) := by
  have n0 := nm_printed_form
  exact pss_one (ps_ret (acall o0 n0 c_signs_of (pa_cons (pe_join (pe_str) (pe_lc (own := [("line", 1)]) o0.calm o0.nd (pi_list (acall o0 n0 c_printed_lines (pa_cons (av o0 n0 0 (gm 0 rfl) rfl) (pa_nil)) (gm 0 rfl))) (o0.ok (own := [("line", 1)]) (by decide +kernel)) (fun s1 H1 C1 l1 p1 => let o1 := o0.blk s1 H1 _ C1 l1 p1; agb o1 1 rfl (by decide +kernel)) (fun _ _ _ _ _ => pts_nil) (fun s1 H1 C1 l1 p1 => (fun (n1 : nmB _ (relS _ _) [1] [] [] = true) => let o1 := o0.blk s1 H1 _ C1 l1 p1; pe_op op_add_str (av o1 n1 1 (gm 0 rfl) rfl) (pe_str)) (by decide +kernel)))) (pa_nil)) (gm 1 rfl)))
theorem joinL_nil : ∀ ws : List (List Nat), TL.joinL [] ws = ws.flatten
  | [] => rfl
  | [w] => by show w = [w].flatten; simp
  | w :: x :: r => by
    show w ++ ([] ++ TL.joinL [] (x :: r)) = (w :: x :: r).flatten
    rw [joinL_nil (x :: r), List.nil_append, List.flatten_cons, List.flatten_cons, List.flatten_cons]
theorem ev_printed_form (C : Ctx K mg) : ∀ a : Deal, DealOk a → ∀ W, Rt (t_printed_form K) (envOf ["sheet", "line"] [dSheet K a]) W (rD (dNs (Vbndao.printDeal a))) := fun x o W => by
  have h1 := lines_len o
  have h2 := lines_ok o
  have hs : (((linesOf x).map fun l => l ++ [10]).map (·.length)).sum ≤ (linesOf x).length * 201 := by
    have := sum_le (l := ((linesOf x).map fun l => l ++ [10]).map (·.length)) (m := 201) fun y hy => by
      obtain ⟨z, hz, rfl⟩ := List.mem_map.mp hy
      obtain ⟨l, hl, rfl⟩ := List.mem_map.mp hz
      have := h2 l hl
      show (l ++ [10]).length ≤ 201
      rw [List.length_append]
      show l.length + 1 ≤ 201
      omega
    rwa [List.length_map, List.length_map] at this
  have ep : Vbndao.printDeal x = ((linesOf x).map fun l => l ++ [10]).flatten := by rw [print_lines, List.flatMap_def]
  have hlen : (Vbndao.printDeal x).length ≤ 100000 := by
    rw [ep, List.length_flatten]
    have : (linesOf x).length * 201 ≤ 25 * 201 := Nat.mul_le_mul_right _ h1
    exact Nat.le_trans hs (by omega)
  refine rt_ret ((ev_call (S (Vbndao.printDeal x)) hlen (ea_cons (Ev.to (ev_join (y := "") (ys := ((linesOf x).map fun l => l ++ [10]).map S) ev_c ((EvO.ev (evO_lcm (linesOf x) (fun l => dS (S l)) (fun l => dS (S (l ++ [10]))) (fun l G => G.set 1 (some (.pl (dS (S l))))) [1] (ei_list (ev_call x o (ea_cons ev_var ea_nil))) (fun _ _ => tg_name)
    (fun l hl => (ev_catS (y := S [10]) rfl ev_var (ev_c.to (by rw [str_S]; rfl)) (by rw [S_len, S_len]; have := h2 l hl; exact szk (by show l.length + 1 ≤ _; omega))).to (by rw [S_cat])) (fun j h => h) (szl (by omega)))).to (by simp only [List.map_map]; rfl)) ?_) ?_) ea_nil)).to rfl)
  · rw [SX.lens, List.length_map, List.length_map]
    have e0 : ("" : Str).length = 0 := by decide
    rw [e0, Nat.mul_zero, Nat.add_zero]
    have : (linesOf x).length * 201 ≤ 25 * 201 := Nat.mul_le_mul_right _ h1
    exact Nat.le_trans hs (by omega)
  · rw [show ("" : Str) = S [] from by rw [str_S]; rfl, join_S, joinL_nil, ← ep]
theorem ok_printed_form {P : Program} {w : World} {K : PySem.W.Frag} {mg : Str → Option Value} {base : Heap} (C : Ctx K mg) : Ok P w K mg base 4 "printed_form" ["sheet"] (sp_printed_form K) :=
  ok_gen C 19 rfl rfl sc_printed_form fg_printed_form (fun _ _ _ _ _ _ hr o => dv_printed_form o (fun _ => rfl) ((ok_printed_lines C).cal hr (by decide)) ((ok_signs_of C).cal hr (by decide))) (fun _ _ _ _ _ _ us hl => match us, hl with | [_], _ => rfl) (len_of fun _ => rfl) fun _ _ _ _ h => reads_of (ev_printed_form C) h
end
end Fd

namespace Fd
open PySem PySem.Spec PyProof.Rows L2
open Vbndao (Deal Position)
section
variable {P : Program} {w : World} {K : PySem.W.Frag} {mg : Str → Option Value} {base : Heap}
/-! ### constants, faults, words as data -/
theorem ctx_ex (C : Ctx K mg) : He.tupB K "NO_FAULT" [.int (0), .int (0)] = true ∧ He.tupB K "NAMES" [.str "trump", .str "ruff", .str "trick", .str "last", .str "worth", .str "lead", .str "hand"] = true ∧ He.tupB K "ONE_NUMBER" [.int (3), .int (4), .int (11), .int (13)] = true ∧ He.tupB K "TWO_NUMBERS" [.int (12), .int (15)] = true ∧ He.tupB K "WITH_A_LIST" [.int (0), .int (1), .int (11), .int (13)] = true := by
  have h := C.ex
  unfold exB at h
  rw [Bool.and_eq_true, Bool.and_eq_true, Bool.and_eq_true, Bool.and_eq_true] at h
  exact h
theorem ev_tupC {x : Str} {vs : List He.Dv} (h : He.tupB K x vs = true) {G : En} {W : Wd} : Ev (tC (.ref (He.ga K x))) G W (dT K ((vs.map (He.Dv.v K)).map dV)) := fun σ W1 l s Q q => q _ W1 (Le.refl _) ⟨_, _, rfl, He.tupB_ok h W1.F, AllD.vals _⟩
abbrev dFt (K : PySem.W.Frag) (f : Nat × Nat) : Dsc := dT K [dN f.1, dN f.2]
theorem ev_no (C : Ctx K mg) {G : En} {W : Wd} : Ev (tC (.ref (He.ga K "NO_FAULT"))) G W (dFt K (0, 0)) := ev_tupC (ctx_ex C).1
def shape_list {xs : List PyData} (h : ∀ x ∈ xs, x.canLay0 = true ∧ x.depth ≤ 10) : SeqAt.shaped (.list xs) = true := by
  have h1 : ∀ l : List PyData, (∀ x ∈ l, x.canLay0 = true ∧ x.depth ≤ 10) → PyData.canLayAll0 l = true := by
    intro l
    induction l with
    | nil => intro _; rfl
    | cons a r ih => intro h; unfold PyData.canLayAll0; rw [ih fun x hx => h x (List.mem_cons_of_mem _ hx), (h a List.mem_cons_self).1]; rfl
  have h2 : ∀ l : List PyData, (∀ x ∈ l, x.canLay0 = true ∧ x.depth ≤ 10) → PyData.depthAll l ≤ 10 := by
    intro l
    induction l with
    | nil => intro _; simp [PyData.depthAll]
    | cons a r ih => intro h; unfold PyData.depthAll; have := ih fun x hx => h x (List.mem_cons_of_mem _ hx); have := (h a List.mem_cons_self).2; omega
  unfold SeqAt.shaped
  rw [Bool.and_eq_true, decide_eq_true_eq]
  refine ⟨by unfold PyData.canLay0; exact h1 _ h, ?_⟩
  have := h2 _ h
  unfold PyData.depth
  omega
abbrev yFt (f : Nat × Nat) : PyData := .tuple [.int f.1, .int f.2]
theorem dat_ft (f : Nat × Nat) : IsDat K (dFt K f) (yFt f) := isDat_T (fun i d x h1 h2 => by
  match i, h1, h2 with
  | 0, h1, h2 => cases h1; cases h2; exact isDat_int
  | 1, h1, h2 => cases h1; cases h2; exact isDat_int
  | i + 2, h1, h2 => cases h1) rfl
theorem eqv_ft (f g : Nat × Nat) : PyData.eqv (yFt f) (yFt g) = decide (f = g) := by
  obtain ⟨a, b⟩ := f
  obtain ⟨c, d⟩ := g
  simp only [yFt, PyData.eqv, PyData.eqvAll]
  rw [Bool.eq_iff_iff]
  simp
  omega
theorem ev_isNo (C : Ctx K mg) {G : En} {W : Wd} {te : TE} {f : Nat × Nat} (h : Ev te G W (dFt K f)) : Ev (tOp (rEqD K) te (tC (.ref (He.ga K "NO_FAULT")))) G W (dB (decide (f = (0, 0)))) := (ev_eqD h (ev_no C) (dat_ft _) (dat_ft _) rfl rfl).to (by rw [eqv_ft])
theorem ev_neNo (C : Ctx K mg) {G : En} {W : Wd} {te : TE} {f : Nat × Nat} (h : Ev te G W (dFt K f)) : Ev (tOp (rNeD K) te (tC (.ref (He.ga K "NO_FAULT")))) G W (dB (!decide (f = (0, 0)))) := (ev_neD h (ev_no C) (dat_ft _) (dat_ft _) rfl rfl).to (by rw [eqv_ft])
abbrev dWs (K : PySem.W.Frag) (ws : List Tok) : Dsc := dL (ws.map (dTok K))
def WsOk (ws : List Tok) : Prop := ws.length ≤ 100000 ∧ ∀ y ∈ ws, y.bytes.length ≤ 100000
theorem eqv_nats : ∀ l k : List Nat, PyData.eqv (.list ((l.map fun (n : Nat) => (n : Int)).map PyData.int)) (.list ((k.map fun (n : Nat) => (n : Int)).map PyData.int)) = decide (l = k) := by
  intro l k
  simp only [PyData.eqv]
  induction l generalizing k with
  | nil => cases k <;> simp [PyData.eqvAll]
  | cons a r ih =>
    cases k with
    | nil => simp [PyData.eqvAll]
    | cons b k =>
      simp only [List.map_cons, PyData.eqvAll, PyData.eqv]
      rw [ih k, Bool.eq_iff_iff]
      simp
      exact fun _ => Int.ofNat_inj
theorem ev_eqNs {G : En} {W : Wd} {ta tb : TE} {l k : List Nat} (ha : Ev ta G W (dNs l)) (hb : Ev tb G W (dNs k)) : Ev (tOp (rEqD K) ta tb) G W (dB (decide (l = k))) := (ev_eqD ha hb (dat_ns _) (dat_ns _) (shape_ns _) (shape_ns _)).to (by rw [eqv_nats])
/-- xs != [], xs of any described data -/
theorem ev_someD {α : Type} {f : α → Dsc} {g : α → PyData} {G : En} {W : Wd} {te : TE} {l : List α} (h : Ev te G W (dL (l.map f))) (hd : ∀ a, IsDat K (f a) (g a)) (hs : ∀ a ∈ l, (g a).canLay0 = true ∧ (g a).depth ≤ 10) : Ev (tOp (rNeD K) te (tLst tNil)) G W (dB (!l.isEmpty)) := by
  refine (ev_neD h (EvO.ev (evO_lst ea_nil)) (isDat_Lm l hd) (isDat_Lm (f := dN) (g := fun n => PyData.int n) [] fun a => isDat_int) (shape_list fun x hx => ?_) (shape_ns [])).to ?_
  · obtain ⟨a, ha, rfl⟩ := List.mem_map.mp hx
    exact hs a ha
  · show dB (!PyData.eqv _ (.list [])) = _
    rw [eqv_nil, List.isEmpty_map]
abbrev yNs (l : List Nat) : PyData := .list ((l.map fun (n : Nat) => (n : Int)).map PyData.int)
theorem lay_ns (l : List Nat) : (yNs l).canLay0 = true ∧ (yNs l).depth ≤ 10 := by
  have h := shape_ns (l.map fun (n : Nat) => (n : Int))
  unfold SeqAt.shaped at h
  rw [Bool.and_eq_true, decide_eq_true_eq] at h
  refine ⟨h.1, ?_⟩
  have h2 : ∀ l : List Int, PyData.depthAll (l.map PyData.int) ≤ 1 := by
    intro l
    induction l with
    | nil => simp [PyData.depthAll]
    | cons a r ih => rw [List.map_cons]; unfold PyData.depthAll; simp [PyData.depth]; omega
  have := h2 (l.map fun (n : Nat) => (n : Int))
  unfold PyData.depth
  omega
abbrev yTok (y : Tok) : PyData := .tuple [.int y.offset, yNs y.bytes]
theorem dat_tok (y : Tok) : IsDat K (dTok K y) (yTok y) := isDat_T (fun i d x h1 h2 => by
  match i, h1, h2 with
  | 0, h1, h2 => cases h1; cases h2; exact isDat_int
  | 1, h1, h2 => cases h1; cases h2; exact dat_ns _
  | i + 2, h1, h2 => cases h1) rfl
theorem lay_tok (y : Tok) : (yTok y).canLay0 = true ∧ (yTok y).depth ≤ 10 := by
  obtain ⟨h1, h2⟩ := lay_ns y.bytes
  have h2' : (yNs y.bytes).depth ≤ 2 := by
    have h3 : ∀ l : List Int, PyData.depthAll (l.map PyData.int) ≤ 1 := by
      intro l
      induction l with
      | nil => simp [PyData.depthAll]
      | cons a r ih => rw [List.map_cons]; unfold PyData.depthAll; simp [PyData.depth]; omega
    have := h3 (y.bytes.map fun (n : Nat) => (n : Int))
    unfold PyData.depth
    omega
  constructor
  · simp only [PyData.canLay0, PyData.canLayAll0, Bool.and_true, Bool.true_and]
    simp only [PyData.canLay0] at h1
    exact h1
  · simp only [PyData.depth, PyData.depthAll] at h2' ⊢
    omega
theorem ev_someWs {G : En} {W : Wd} {te : TE} {ws : List Tok} (h : Ev te G W (dWs K ws)) : Ev (tOp (rNeD K) te (tLst tNil)) G W (dB (!ws.isEmpty)) := ev_someD h dat_tok fun y _ => lay_tok y
abbrev tokAt (ws : List Tok) (i : Nat) : Tok := ws.getD i ⟨0, []⟩
theorem toks_at {ws : List Tok} {i : Nat} (h : i < ws.length) : (ws.map (dTok K))[i]? = some (dTok K (tokAt ws i)) := by
  rw [List.getElem?_map, List.getElem?_eq_getElem h]
  unfold tokAt
  rw [List.getD_eq_getElem?_getD, List.getElem?_eq_getElem h]
  rfl
theorem ev_tokB {G : En} {W : Wd} {te ti : TE} {ws : List Tok} {i : Nat} (h : Ev te G W (dWs K ws)) (hi : Ev ti G W (dN i)) (hl : i < ws.length) : Ev (tOp (rIxT K) (tOp (rIxL K) te ti) (tC (.int 1))) G W (dNs (tokAt ws i).bytes) := ev_ixT (j := 1) (ev_ixL (j := i) h hi (toks_at hl)) ev_c rfl
theorem ev_tokO {G : En} {W : Wd} {te ti : TE} {ws : List Tok} {i : Nat} (h : Ev te G W (dWs K ws)) (hi : Ev ti G W (dN i)) (hl : i < ws.length) : Ev (tOp (rIxT K) (tOp (rIxL K) te ti) (tC (.int 0))) G W (dN (tokAt ws i).offset) := ev_ixT (j := 0) (ev_ixL (j := i) h hi (toks_at hl)) ev_c rfl
theorem ws_at {ws : List Tok} (h : WsOk ws) {i : Nat} : (tokAt ws i).bytes.length ≤ 100000 := by
  unfold tokAt
  rw [List.getD_eq_getElem?_getD]
  cases e : ws[i]? with
  | none => exact Nat.zero_le _
  | some y => exact h.2 y (List.mem_of_getElem? e)
def namesM : List Str := ["trump", "ruff", "trick", "last", "worth", "lead", "hand"]
def nameOf (l : List Nat) : Str := (namesM.find? fun nm => decide (l = nm.cps.toList)).getD ""
def sp_name_in (K : PySem.W.Frag) : Sp := spOf (fun a : List Nat => a.length ≤ 100000) (fun a => [dNs a]) (fun a => dS (nameOf a))
/-! name_in -/
def N_name_in : List Str := ["word", "name"]
theorem sc_name_in : FnScope ["word", "name"] ["word"] (defScope s_name_in) := ⟨rfl, rfl, rfl, by decide +kernel, rfl, by decide +kernel, by decide +kernel⟩
theorem nm_name_in : nmB ["word", "name"] (defScope s_name_in) [0, 1] [1] ["NAMES", "signs_of"] = true := by decide +kernel
def t_name_in (K : PySem.W.Frag) : TS := tSeq (tFor (iTup K (tC (.ref (He.ga K "NAMES")))) (gName 1) (tIfS (tTest (tOp (rEqD K) (tVar 0) (tCall (sp_signs_of K) [] E0 (tCons (tVar 1) (tNil))))) (tRet (tVar 1)) (tNext))) (tRet (tC (.str "")))
theorem dv_name_in {X : Cx} (o0 : On fa X ["word", "name"] (defScope s_name_in)) (hf : ∀ x, X.fn x = true) (c_signs_of : Cal X "signs_of" (sp_signs_of X.K)) : PSs X (defBody s_name_in) (t_name_in X.K) := by
  have n0 := nm_name_in
  exact pss_cons (ps_for o0.nev o0.calm (pi_tup (agr o0 n0 (gm 0 rfl) f_NAMES)) (ag o0 n0 hf 1 (gm 0 rfl) rfl) (pss_one (ps_if (pt_cmpR (op_eqD o0.hu) (av o0 n0 0 (gm 0 rfl) rfl) (acall o0 n0 c_signs_of (pa_cons (av o0 n0 1 (gm 1 rfl) rfl) (pa_nil)) (gm 1 rfl)) (nomark _)) (pss_one (ps_ret (av o0 n0 1 (gm 1 rfl) rfl))) (pss_nil)))) (pss_one (ps_ret (pe_str)))
theorem ev_name_in (C : Ctx K mg) : ∀ a : List Nat, a.length ≤ 100000 → ∀ W, Rt (t_name_in K) (envOf ["word", "name"] [dNs a]) W (rD (dS (nameOf a))) := fun l h W => by
  have hi : ∀ {G : En}, EvI (iTup K (tC (.ref (He.ga K "NAMES")))) G W (namesM.map dS) := ei_tup (ev_tupC (ctx_ex C).2.1)
  have hn : ∀ nm ∈ namesM, nm.cps.toList.length ≤ 100000 := by decide +kernel
  have tst : ∀ {G : En} {nm : Str}, nm ∈ namesM → G[0]? = some (some (.pl (dNs l))) → G[1]? = some (some (.pl (dS nm))) → EvT (tTest (tOp (rEqD K) (tVar 0) (tCall (sp_signs_of K) [] E0 (tCons (tVar 1) tNil)))) G W (decide (l = nm.cps.toList)) := fun hm g0 g1 =>
    et_test (ev_eqNs (ev_var g0) (ev_call _ (hn _ hm) (ea_cons (ev_var g1) ea_nil)))
  unfold nameOf
  cases e : namesM.find? (fun nm => decide (l = nm.cps.toList)) with
  | none =>
    rw [List.find?_eq_none] at e
    refine rt_forM namesM dS (fun _ => [some (.pl (dNs l)), none]) (fun c G => G.set 1 (some (.pl (dS c)))) [1] [1] namesM.length (Nat.le_refl _) hi (fun _ _ => tg_name) (fun i a _ ha => ⟨_, nx_ifF ((tst (List.mem_of_getElem? ha) rfl rfl).to (by simpa using e a (List.mem_of_getElem? ha))) nx_skip, rfl⟩) (fun a ha => ?_) fun _ => rt_ret ev_c
    rw [List.getElem?_eq_none (Nat.le_refl _)] at ha
    cases ha
  | some c =>
    obtain ⟨hc, as, bs, ek, hno⟩ := List.find?_eq_some_iff_append.mp e
    have hcm : c ∈ namesM := by rw [ek]; simp
    refine rt_forM namesM dS (fun _ => [some (.pl (dNs l)), none]) (fun c G => G.set 1 (some (.pl (dS c)))) [1] [1] as.length (by rw [ek, List.length_append]; omega) hi (fun _ _ => tg_name) (fun i a hi ha => ⟨_, nx_ifF ((tst (List.mem_of_getElem? ha) rfl rfl).to ?_) nx_skip, rfl⟩) (fun a ha => ?_) fun hx => ?_
    · rw [ek, List.getElem?_append_left hi] at ha
      simpa using hno a (List.mem_of_getElem? ha)
    · have hm := List.mem_of_getElem? ha
      rw [ek, List.getElem?_append_right (Nat.le_refl _), Nat.sub_self] at ha
      cases ha
      exact rt_ifT ((tst hm rfl rfl).to hc) (rt_ret ev_var)
    · rw [ek, List.length_append, List.length_cons] at hx
      omega
theorem ok_name_in {P : Program} {w : World} {K : PySem.W.Frag} {mg : Str → Option Value} {base : Heap} (C : Ctx K mg) : Ok P w K mg base 2 "name_in" ["word"] (sp_name_in K) :=
  ok_gen C 56 rfl rfl sc_name_in fg_name_in (fun _ _ _ _ _ _ hr o => dv_name_in o (fun _ => rfl) ((ok_signs_of C).cal hr (by decide))) (fun _ _ _ _ _ _ us hl => match us, hl with | [_], _ => rfl) (len_of fun _ => rfl) fun _ _ _ _ h => reads_of (ev_name_in C) h
def numFault (ws : List Tok) (at_ e lo hi : Nat) : Nat × Nat := if at_ ≥ ws.length then (1, e) else match Vbndaa.natOfToken 3 (tokAt ws at_).bytes with
  | none => (1, (tokAt ws at_).offset)
  | some n => if lo ≤ n ∧ n ≤ hi then (0, 0) else (3, (tokAt ws at_).offset)
abbrev ANum := List Tok × Nat × Nat × Nat × Nat
def sp_number_fault (K : PySem.W.Frag) : Sp := spOf (fun a : ANum => WsOk a.1) (fun a => [dWs K a.1, dN a.2.1, dN a.2.2.1, dN a.2.2.2.1, dN a.2.2.2.2]) (fun a => dFt K (numFault a.1 a.2.1 a.2.2.1 a.2.2.2.1 a.2.2.2.2))
/-! number_fault -/
def N_number_fault : List Str := ["words", "at", "end", "least", "most", "number"]
theorem sc_number_fault : FnScope ["words", "at", "end", "least", "most", "number"] ["words", "at", "end", "least", "most"] (defScope s_number_fault) := ⟨rfl, rfl, rfl, by decide +kernel, rfl, by decide +kernel, by decide +kernel⟩
theorem nm_number_fault : nmB ["words", "at", "end", "least", "most", "number"] (defScope s_number_fault) [1, 0, 2, 5, 3, 4] [5] ["len", "WRONG_WORD", "number_in", "NONE_SAID", "OUT_OF_RANGE", "NO_FAULT"] = true := by decide +kernel
def t_number_fault (K : PySem.W.Frag) : TS := tSeq (tIfS (tTest (tOp oGe (tVar 1) (tCB (cLen K) (tCons (tVar 0) (tNil))))) (tRet (tTup (tCons (tC (.int (1))) (tCons (tVar 2) (tNil))))) (tNext)) (tSeq (tAsg (tCall (sp_number_in K) [] E0 (tCons (tOp (rIxT K) (tOp (rIxL K) (tVar 0) (tVar 1)) (tC (.int 1))) (tNil))) (gName 5)) (tSeq (tIfS (tTest (tOp rEq (tVar 5) (tC (.int (-1))))) (tRet (tTup (tCons (tC (.int (1))) (tCons (tOp (rIxT K) (tOp (rIxL K) (tVar 0) (tVar 1)) (tC (.int 0))) (tNil))))) (tNext)) (tSeq (tIfS (tNot (tTest (tChain oLe oLe (tVar 3) (tVar 5) (tVar 4)))) (tRet (tTup (tCons (tC (.int (3))) (tCons (tOp (rIxT K) (tOp (rIxL K) (tVar 0) (tVar 1)) (tC (.int 0))) (tNil))))) (tNext)) (tRet (tC (.ref (He.ga K "NO_FAULT")))))))
theorem dv_number_fault {X : Cx} (o0 : On fa X ["words", "at", "end", "least", "most", "number"] (defScope s_number_fault)) (hf : ∀ x, X.fn x = true) (c_number_in : Cal X "number_in" (sp_number_in X.K)) : PSs X (defBody s_number_fault) (t_number_fault X.K) := by
  have n0 := nm_number_fault
  exact pss_cons (ps_if (pt_cmpR op_ge (av o0 n0 1 (gm 0 rfl) rfl) (acb o0 n0 call_len_seq (by decide +kernel) (pa_cons (av o0 n0 0 (gm 1 rfl) rfl) (pa_nil)) (gm 0 rfl) f_len) (nomark _)) (pss_one (ps_ret (pe_tup (pa_cons (agi o0 n0 (gm 1 rfl) f_WRONG_WORD) (pa_cons (av o0 n0 2 (gm 2 rfl) rfl) (pa_nil)))))) (pss_nil)) (pss_cons (aset o0 n0 hf 5 (acall o0 n0 c_number_in (pa_cons (pe_ix ix_tup (pe_ix ix_list (av o0 n0 0 (gm 1 rfl) rfl) (av o0 n0 1 (gm 0 rfl) rfl) (fun _ _ => rfl)) (pe_int) (fun _ _ => rfl)) (pa_nil)) (gm 2 rfl)) (gm 0 rfl) rfl) (pss_cons (ps_if (pt_cmpR op_eq (av o0 n0 5 (gm 3 rfl) rfl) (agi o0 n0 (gm 3 rfl) f_NONE_SAID) (nomark _)) (pss_one (ps_ret (pe_tup (pa_cons (agi o0 n0 (gm 1 rfl) f_WRONG_WORD) (pa_cons (pe_ix ix_tup (pe_ix ix_list (av o0 n0 0 (gm 1 rfl) rfl) (av o0 n0 1 (gm 0 rfl) rfl) (fun _ _ => rfl)) (pe_int) (fun _ _ => rfl)) (pa_nil)))))) (pss_nil)) (pss_cons (ps_if (pt_not (pt_chain op_le op_le (av o0 n0 3 (gm 4 rfl) rfl) (av o0 n0 5 (gm 3 rfl) rfl) (av o0 n0 4 (gm 5 rfl) rfl))) (pss_one (ps_ret (pe_tup (pa_cons (agi o0 n0 (gm 4 rfl) f_OUT_OF_RANGE) (pa_cons (pe_ix ix_tup (pe_ix ix_list (av o0 n0 0 (gm 1 rfl) rfl) (av o0 n0 1 (gm 0 rfl) rfl) (fun _ _ => rfl)) (pe_int) (fun _ _ => rfl)) (pa_nil)))))) (pss_nil)) (pss_one (ps_ret (agr o0 n0 (gm 5 rfl) f_NO_FAULT))))))
theorem ev_ft {G : En} {W : Wd} {ta tb : TE} {a b : Nat} (h1 : Ev ta G W (dN a)) (h2 : Ev tb G W (dN b)) : Ev (tTup (tCons ta (tCons tb tNil))) G W (dFt K (a, b)) := ev_tup (ea_cons h1 (ea_cons h2 ea_nil))
theorem ev_number_fault (C : Ctx K mg) : ∀ a : ANum, WsOk a.1 → ∀ W, Rt (t_number_fault K) (envOf ["words", "at", "end", "least", "most", "number"] [dWs K a.1, dN a.2.1, dN a.2.2.1, dN a.2.2.2.1, dN a.2.2.2.2]) W (rD (dFt K (numFault a.1 a.2.1 a.2.2.1 a.2.2.2.1 a.2.2.2.2))) := fun ⟨ws, i, e, lo, hi⟩ h W => by
  dsimp only at h ⊢
  unfold numFault
  refine rt_ifR (b := decide (i ≥ ws.length)) ((et_test (ev_I0 ev_var (ev_lenM ev_var))).to (decide_eq_decide.mpr (by show ((ws.length : Nat) : Int) ≤ (i : Int) ↔ i ≥ ws.length; omega))) (fun q => ?_) fun q => ?_
  · rw [if_pos (of_decide_eq_true q)]
    exact rt_ret (ev_ft (a := 1) ev_c ev_var)
  have q := of_decide_eq_false q
  rw [if_neg q]
  have hi' : i < ws.length := by omega
  refine rt_seq (nx_set (ev_call (tokAt ws i).bytes (ws_at h) (ea_cons (ev_tokB ev_var ev_var hi') ea_nil))) ?_
  refine rt_ifR ((et_test (ev_eqI ev_var ev_c)).to (opt_none _)) (fun q => ?_) fun q => ?_
  · rw [Option.isNone_iff_eq_none] at q
    rw [q]
    exact rt_ret (ev_ft (a := 1) ev_c (ev_tokO ev_var ev_var hi'))
  · cases hn : Vbndaa.natOfToken 3 (tokAt ws i).bytes with
    | none => rw [hn] at q; cases q
    | some n =>
      dsimp only
      refine rt_ifR (b := !(decide (lo ≤ n) && decide (n ≤ hi))) (et_not ((et_test (ev_chain (j := (n : Int)) rfl rfl ev_var ev_var ev_var)).to ?_)) (fun q => ?_) fun q => ?_
      · rw [show decide ((lo : Int) ≤ (n : Int)) = decide (lo ≤ n) from decide_eq_decide.mpr Int.ofNat_le, show decide ((n : Int) ≤ (hi : Int)) = decide (n ≤ hi) from decide_eq_decide.mpr Int.ofNat_le]
      · rw [Bool.not_eq_true', ← Bool.not_eq_true, Bool.and_eq_true, decide_eq_true_eq, decide_eq_true_eq] at q
        rw [if_neg q]
        exact rt_ret (ev_ft (a := 3) ev_c (ev_tokO ev_var ev_var hi'))
      · rw [Bool.not_eq_false', Bool.and_eq_true, decide_eq_true_eq, decide_eq_true_eq] at q
        rw [if_pos q]
        exact rt_ret (ev_no C)
theorem ok_number_fault {P : Program} {w : World} {K : PySem.W.Frag} {mg : Str → Option Value} {base : Heap} (C : Ctx K mg) : Ok P w K mg base 3 "number_fault" ["words", "at", "end", "least", "most"] (sp_number_fault K) :=
  ok_gen C 57 rfl rfl sc_number_fault fg_number_fault (fun _ _ _ _ _ _ hr o => dv_number_fault o (fun _ => rfl) ((ok_number_in C).cal hr (by decide))) (fun _ _ _ _ _ _ us hl => match us, hl with | [_, _, _, _, _], _ => rfl) (len_of fun _ => rfl) fun _ _ _ _ h => reads_of (ev_number_fault C) h
def suitFault (ws : List Tok) (e : Nat) : Nat × Nat := if ws.length < 2 then (1, e) else if (suitTok (tokAt ws 1).bytes).isNone = true then (1, (tokAt ws 1).offset) else (0, 0)
def sp_suit_fault (K : PySem.W.Frag) : Sp := spOf (fun a : List Tok × Nat => WsOk a.1) (fun a => [dWs K a.1, dN a.2]) (fun a => dFt K (suitFault a.1 a.2))
/-! suit_fault -/
def N_suit_fault : List Str := ["words", "end"]
theorem sc_suit_fault : FnScope ["words", "end"] ["words", "end"] (defScope s_suit_fault) := ⟨rfl, rfl, rfl, by decide +kernel, rfl, by decide +kernel, by decide +kernel⟩
theorem nm_suit_fault : nmB ["words", "end"] (defScope s_suit_fault) [0, 1] [] ["len", "WRONG_WORD", "suit_in", "NONE_SAID", "NO_FAULT"] = true := by decide +kernel
def t_suit_fault (K : PySem.W.Frag) : TS := tSeq (tIfS (tTest (tOp oLt (tCB (cLen K) (tCons (tVar 0) (tNil))) (tC (.int 2)))) (tRet (tTup (tCons (tC (.int (1))) (tCons (tVar 1) (tNil))))) (tNext)) (tSeq (tIfS (tTest (tOp rEq (tCall (sp_suit_in K) [] E0 (tCons (tOp (rIxT K) (tOp (rIxL K) (tVar 0) (tC (.int 1))) (tC (.int 1))) (tNil))) (tC (.int (-1))))) (tRet (tTup (tCons (tC (.int (1))) (tCons (tOp (rIxT K) (tOp (rIxL K) (tVar 0) (tC (.int 1))) (tC (.int 0))) (tNil))))) (tNext)) (tRet (tC (.ref (He.ga K "NO_FAULT")))))
theorem dv_suit_fault {X : Cx} (o0 : On fa X ["words", "end"] (defScope s_suit_fault)) (hf : ∀ x, X.fn x = true) (c_suit_in : Cal X "suit_in" (sp_suit_in X.K)) : PSs X (defBody s_suit_fault) (t_suit_fault X.K) := by
  have n0 := nm_suit_fault
  exact pss_cons (ps_if (pt_cmpR op_lt (acb o0 n0 call_len_seq (by decide +kernel) (pa_cons (av o0 n0 0 (gm 0 rfl) rfl) (pa_nil)) (gm 0 rfl) f_len) (pe_int) (nomark _)) (pss_one (ps_ret (pe_tup (pa_cons (agi o0 n0 (gm 1 rfl) f_WRONG_WORD) (pa_cons (av o0 n0 1 (gm 1 rfl) rfl) (pa_nil)))))) (pss_nil)) (pss_cons (ps_if (pt_cmpR op_eq (acall o0 n0 c_suit_in (pa_cons (pe_ix ix_tup (pe_ix ix_list (av o0 n0 0 (gm 0 rfl) rfl) (pe_int) (fun _ _ => rfl)) (pe_int) (fun _ _ => rfl)) (pa_nil)) (gm 2 rfl)) (agi o0 n0 (gm 3 rfl) f_NONE_SAID) (nomark _)) (pss_one (ps_ret (pe_tup (pa_cons (agi o0 n0 (gm 1 rfl) f_WRONG_WORD) (pa_cons (pe_ix ix_tup (pe_ix ix_list (av o0 n0 0 (gm 0 rfl) rfl) (pe_int) (fun _ _ => rfl)) (pe_int) (fun _ _ => rfl)) (pa_nil)))))) (pss_nil)) (pss_one (ps_ret (agr o0 n0 (gm 4 rfl) f_NO_FAULT))))
theorem ev_suit_fault (C : Ctx K mg) : ∀ a : List Tok × Nat, WsOk a.1 → ∀ W, Rt (t_suit_fault K) (envOf ["words", "end"] [dWs K a.1, dN a.2]) W (rD (dFt K (suitFault a.1 a.2))) := fun ⟨ws, e⟩ h W => by
  dsimp only at h ⊢
  unfold suitFault
  refine rt_ifR (b := decide (ws.length < 2)) ((et_test (ev_I0 (ev_lenM ev_var) ev_c)).to (decide_eq_decide.mpr (by show ((ws.length : Nat) : Int) < 2 ↔ _; omega))) (fun q => ?_) fun q => ?_
  · rw [if_pos (of_decide_eq_true q)]
    exact rt_ret (ev_ft (a := 1) ev_c ev_var)
  have q := of_decide_eq_false q
  rw [if_neg q]
  refine rt_ifR ((et_test (ev_eqI (ev_call (tokAt ws 1).bytes trivial (ea_cons (ev_tokB (i := 1) ev_var ev_c (by omega)) ea_nil)) ev_c)).to (opt_none _)) (fun q => ?_) fun q => ?_
  · rw [if_pos q]
    exact rt_ret (ev_ft (a := 1) ev_c (ev_tokO (i := 1) ev_var ev_c (by omega)))
  · rw [if_neg (by rw [q]; decide)]
    exact rt_ret (ev_no C)
theorem ok_suit_fault {P : Program} {w : World} {K : PySem.W.Frag} {mg : Str → Option Value} {base : Heap} (C : Ctx K mg) : Ok P w K mg base 2 "suit_fault" ["words", "end"] (sp_suit_fault K) :=
  ok_gen C 58 rfl rfl sc_suit_fault fg_suit_fault (fun _ _ _ _ _ _ hr o => dv_suit_fault o (fun _ => rfl) ((ok_suit_in C).cal hr (by decide))) (fun _ _ _ _ _ _ us hl => match us, hl with | [_, _], _ => rfl) (len_of fun _ => rfl) fun _ _ _ _ h => reads_of (ev_suit_fault C) h
def extraFault (ws : List Tok) (m : Nat) : Nat × Nat := if ws.length > m then (1, (tokAt ws m).offset) else (0, 0)
def sp_extra_fault (K : PySem.W.Frag) : Sp := spOf (fun a : List Tok × Nat => WsOk a.1) (fun a => [dWs K a.1, dN a.2]) (fun a => dFt K (extraFault a.1 a.2))
/-! extra_fault -/
def N_extra_fault : List Str := ["words", "many"]
theorem sc_extra_fault : FnScope ["words", "many"] ["words", "many"] (defScope s_extra_fault) := ⟨rfl, rfl, rfl, by decide +kernel, rfl, by decide +kernel, by decide +kernel⟩
theorem nm_extra_fault : nmB ["words", "many"] (defScope s_extra_fault) [0, 1] [] ["len", "WRONG_WORD", "NO_FAULT"] = true := by decide +kernel
def t_extra_fault (K : PySem.W.Frag) : TS := tRet (tIf (tTest (tOp oGt (tCB (cLen K) (tCons (tVar 0) (tNil))) (tVar 1))) (tTup (tCons (tC (.int (1))) (tCons (tOp (rIxT K) (tOp (rIxL K) (tVar 0) (tVar 1)) (tC (.int 0))) (tNil)))) (tC (.ref (He.ga K "NO_FAULT"))))
theorem dv_extra_fault {X : Cx} (o0 : On fa X ["words", "many"] (defScope s_extra_fault)) (hf : ∀ x, X.fn x = true) : PSs X (defBody s_extra_fault) (t_extra_fault X.K) := by
  have n0 := nm_extra_fault
  exact pss_one (ps_ret (pe_ifExp (pt_cmpR op_gt (acb o0 n0 call_len_seq (by decide +kernel) (pa_cons (av o0 n0 0 (gm 0 rfl) rfl) (pa_nil)) (gm 0 rfl) f_len) (av o0 n0 1 (gm 1 rfl) rfl) (nomark _)) (pe_tup (pa_cons (agi o0 n0 (gm 1 rfl) f_WRONG_WORD) (pa_cons (pe_ix ix_tup (pe_ix ix_list (av o0 n0 0 (gm 0 rfl) rfl) (av o0 n0 1 (gm 1 rfl) rfl) (fun _ _ => rfl)) (pe_int) (fun _ _ => rfl)) (pa_nil)))) (agr o0 n0 (gm 2 rfl) f_NO_FAULT)))
theorem ev_extra_fault (C : Ctx K mg) : ∀ a : List Tok × Nat, WsOk a.1 → ∀ W, Rt (t_extra_fault K) (envOf ["words", "many"] [dWs K a.1, dN a.2]) W (rD (dFt K (extraFault a.1 a.2))) := fun ⟨ws, m⟩ h W => by
  dsimp only at h ⊢
  unfold extraFault
  refine rt_ret (ev_if (b := decide (ws.length > m)) ((et_test (ev_I0 (ev_lenM ev_var) ev_var)).to (decide_eq_decide.mpr (by show ((m : Nat) : Int) < (ws.length : Nat) ↔ _; omega))) (fun q => ?_) fun q => ?_)
  · have q := of_decide_eq_true q
    rw [if_pos q]
    exact ev_ft (a := 1) ev_c (ev_tokO ev_var ev_var q)
  · rw [if_neg (of_decide_eq_false q)]
    exact ev_no C
theorem ok_extra_fault {P : Program} {w : World} {K : PySem.W.Frag} {mg : Str → Option Value} {base : Heap} (C : Ctx K mg) : Ok P w K mg base 1 "extra_fault" ["words", "many"] (sp_extra_fault K) :=
  ok_gen C 59 rfl rfl sc_extra_fault fg_extra_fault (fun _ _ _ _ _ _ hr o => dv_extra_fault o (fun _ => rfl)) (fun _ _ _ _ _ _ us hl => match us, hl with | [_, _], _ => rfl) (len_of fun _ => rfl) fun _ _ _ _ h => reads_of (ev_extra_fault C) h
def numLineFault (ws : List Tok) (e hi : Nat) : Nat × Nat := if numFault ws 1 e 0 hi ≠ (0, 0) then numFault ws 1 e 0 hi else extraFault ws 2
def sp_number_line_fault (K : PySem.W.Frag) : Sp := spOf (fun a : List Tok × Nat × Nat => WsOk a.1) (fun a => [dWs K a.1, dN a.2.1, dN a.2.2]) (fun a => dFt K (numLineFault a.1 a.2.1 a.2.2))
/-! number_line_fault -/
def N_number_line_fault : List Str := ["words", "end", "most", "fault"]
theorem sc_number_line_fault : FnScope ["words", "end", "most", "fault"] ["words", "end", "most"] (defScope s_number_line_fault) := ⟨rfl, rfl, rfl, by decide +kernel, rfl, by decide +kernel, by decide +kernel⟩
theorem nm_number_line_fault : nmB ["words", "end", "most", "fault"] (defScope s_number_line_fault) [0, 1, 2, 3] [3] ["number_fault", "NO_FAULT", "extra_fault"] = true := by decide +kernel
def t_number_line_fault (K : PySem.W.Frag) : TS := tSeq (tAsg (tCall (sp_number_fault K) [] E0 (tCons (tVar 0) (tCons (tC (.int 1)) (tCons (tVar 1) (tCons (tC (.int 0)) (tCons (tVar 2) (tNil))))))) (gName 3)) (tRet (tIf (tTest (tOp (rNeD K) (tVar 3) (tC (.ref (He.ga K "NO_FAULT"))))) (tVar 3) (tCall (sp_extra_fault K) [] E0 (tCons (tVar 0) (tCons (tC (.int 2)) (tNil))))))
theorem dv_number_line_fault {X : Cx} (o0 : On fa X ["words", "end", "most", "fault"] (defScope s_number_line_fault)) (hf : ∀ x, X.fn x = true) (c_number_fault : Cal X "number_fault" (sp_number_fault X.K)) (c_extra_fault : Cal X "extra_fault" (sp_extra_fault X.K)) : PSs X (defBody s_number_line_fault) (t_number_line_fault X.K) := by
  have n0 := nm_number_line_fault
  exact pss_cons (aset o0 n0 hf 3 (acall o0 n0 c_number_fault (pa_cons (av o0 n0 0 (gm 0 rfl) rfl) (pa_cons (pe_int) (pa_cons (av o0 n0 1 (gm 1 rfl) rfl) (pa_cons (pe_int) (pa_cons (av o0 n0 2 (gm 2 rfl) rfl) (pa_nil)))))) (gm 0 rfl)) (gm 0 rfl) rfl) (pss_one (ps_ret (pe_ifExp (pt_cmpR (op_neD o0.hu) (av o0 n0 3 (gm 3 rfl) rfl) (agr o0 n0 (gm 1 rfl) f_NO_FAULT) (nomark _)) (av o0 n0 3 (gm 3 rfl) rfl) (acall o0 n0 c_extra_fault (pa_cons (av o0 n0 0 (gm 0 rfl) rfl) (pa_cons (pe_int) (pa_nil))) (gm 2 rfl)))))
theorem ev_number_line_fault (C : Ctx K mg) : ∀ a : List Tok × Nat × Nat, WsOk a.1 → ∀ W, Rt (t_number_line_fault K) (envOf ["words", "end", "most", "fault"] [dWs K a.1, dN a.2.1, dN a.2.2]) W (rD (dFt K (numLineFault a.1 a.2.1 a.2.2))) := fun ⟨ws, e, hi⟩ h W => by
  dsimp only at h ⊢
  unfold numLineFault
  refine rt_seq (nx_set (ev_call (ws, 1, e, 0, hi) h (ea_cons ev_var (ea_cons ev_c (ea_cons ev_var (ea_cons ev_c (ea_cons ev_var ea_nil))))))) ?_
  generalize numFault ws 1 e 0 hi = f
  refine rt_ret (ev_if (et_test (ev_neNo C ev_var)) (fun q => ?_) fun q => ?_)
  · rw [if_pos (by simpa using q)]
    exact ev_var
  · rw [if_neg (by simpa using q)]
    exact ev_call (ws, 2) h (ea_cons ev_var (ea_cons ev_c ea_nil))
theorem ok_number_line_fault {P : Program} {w : World} {K : PySem.W.Frag} {mg : Str → Option Value} {base : Heap} (C : Ctx K mg) : Ok P w K mg base 4 "number_line_fault" ["words", "end", "most"] (sp_number_line_fault K) :=
  ok_gen C 63 rfl rfl sc_number_line_fault fg_number_line_fault (fun _ _ _ _ _ _ hr o => dv_number_line_fault o (fun _ => rfl) ((ok_number_fault C).cal hr (by decide)) ((ok_extra_fault C).cal hr (by decide))) (fun _ _ _ _ _ _ us hl => match us, hl with | [_, _, _], _ => rfl) (len_of fun _ => rfl) fun _ _ _ _ h => reads_of (ev_number_line_fault C) h
def rankFault (x : Deal) (ws : List Tok) (e : Nat) : Nat × Nat := if numFault ws 1 e 1 13 = (0, 0) ∧ (x.rankValues.map (·.1)).contains ((Vbndaa.natOfToken 3 (tokAt ws 1).bytes).getD 0) = true then (4, (tokAt ws 1).offset) else numFault ws 1 e 1 13
def sp_rank_fault (K : PySem.W.Frag) : Sp := spOf (fun a : Deal × List Tok × Nat => WsOk a.2.1 ∧ a.1.rankValues.length ≤ 100000) (fun a => [dSheet K a.1, dWs K a.2.1, dN a.2.2]) (fun a => dFt K (rankFault a.1 a.2.1 a.2.2))
/-! rank_fault -/
def N_rank_fault : List Str := ["sheet", "words", "end", "fault", "rank", "points"]
theorem sc_rank_fault : FnScope ["sheet", "words", "end", "fault", "rank", "points"] ["sheet", "words", "end"] (defScope s_rank_fault) := ⟨rfl, rfl, rfl, by decide +kernel, rfl, by decide +kernel, by decide +kernel⟩
theorem nm_rank_fault : nmB ["sheet", "words", "end", "fault", "rank", "points"] (defScope s_rank_fault) [1, 2, 3, 0] [3] ["MOST_RANK_reading", "number_fault", "NO_FAULT", "number_in", "TWICE"] = true := by decide +kernel
def t_rank_fault (K : PySem.W.Frag) : TS := tSeq (tAsg (tCall (sp_number_fault K) [] E0 (tCons (tVar 1) (tCons (tC (.int 1)) (tCons (tVar 2) (tCons (tC (.int 1)) (tCons (tC (.int (13))) (tNil))))))) (gName 3)) (tSeq (tIfS (tAnd (tTest (tOp (rEqD K) (tVar 3) (tC (.ref (He.ga K "NO_FAULT"))))) (tTest (tOp (rIn K false) (tCall (sp_number_in K) [] E0 (tCons (tOp (rIxT K) (tOp (rIxL K) (tVar 1) (tC (.int 1))) (tC (.int 1))) (tNil))) (tLc (iList K (tFld K (tVar 0) "worths")) (gTup K 2 (gCons (gName 4) (gCons (gName 5) (gNil)))) (tYes) (tVar 4) [4, 5])))) (tRet (tTup (tCons (tC (.int (4))) (tCons (tOp (rIxT K) (tOp (rIxL K) (tVar 1) (tC (.int 1))) (tC (.int 0))) (tNil))))) (tNext)) (tRet (tVar 3)))
theorem dv_rank_fault {X : Cx} (o0 : On fa X ["sheet", "words", "end", "fault", "rank", "points"] (defScope s_rank_fault)) (hf : ∀ x, X.fn x = true) (c_number_fault : Cal X "number_fault" (sp_number_fault X.K)) (c_number_in : Cal X "number_in" (sp_number_in X.K)) : PSs X (defBody s_rank_fault) (t_rank_fault X.K) := by
  have n0 := nm_rank_fault
  exact pss_cons (aset o0 n0 hf 3 (acall o0 n0 c_number_fault (pa_cons (av o0 n0 1 (gm 0 rfl) rfl) (pa_cons (pe_int) (pa_cons (av o0 n0 2 (gm 1 rfl) rfl) (pa_cons (pe_int) (pa_cons (agi o0 n0 (gm 0 rfl) f_MOST_RANK_reading) (pa_nil)))))) (gm 1 rfl)) (gm 0 rfl) rfl) (pss_cons (ps_if (PW.pt (pw_and (pt_cmpR (op_eqD o0.hu) (av o0 n0 3 (gm 2 rfl) rfl) (agr o0 n0 (gm 2 rfl) f_NO_FAULT) (nomark _)) (pw_and1 (pt_cmpR op_in_seq (acall o0 n0 c_number_in (pa_cons (pe_ix ix_tup (pe_ix ix_list (av o0 n0 1 (gm 0 rfl) rfl) (pe_int) (fun _ _ => rfl)) (pe_int) (fun _ _ => rfl)) (pa_nil)) (gm 3 rfl)) (pe_lc (own := [("rank", 4), ("points", 5)]) o0.calm o0.nd (pi_list (pe_fld (av o0 n0 0 (gm 3 rfl) rfl) rfl)) (o0.ok (own := [("rank", 4), ("points", 5)]) (by decide +kernel)) (fun s1 H1 C1 l1 p1 => let o1 := o0.blk s1 H1 _ C1 l1 p1; pg_tup o1.calm (pgs_cons (agb o1 4 rfl (by decide +kernel)) (pgs_cons (agb o1 5 rfl (by decide +kernel)) (pgs_nil)))) (fun _ _ _ _ _ => pts_nil) (fun s1 H1 C1 l1 p1 => (fun (n1 : nmB _ (relS _ _) [4] [] [] = true) => let o1 := o0.blk s1 H1 _ C1 l1 p1; av o1 n1 4 (gm 0 rfl) rfl) (by decide +kernel))) (by with_unfolding_all rfl))))) (pss_one (ps_ret (pe_tup (pa_cons (agi o0 n0 (gm 4 rfl) f_TWICE) (pa_cons (pe_ix ix_tup (pe_ix ix_list (av o0 n0 1 (gm 0 rfl) rfl) (pe_int) (fun _ _ => rfl)) (pe_int) (fun _ _ => rfl)) (pa_nil)))))) (pss_nil)) (pss_one (ps_ret (av o0 n0 3 (gm 2 rfl) rfl))))
theorem numFault_some {ws : List Tok} {i e lo hi : Nat} (h : numFault ws i e lo hi = (0, 0)) : i < ws.length ∧ ∃ n, Vbndaa.natOfToken 3 (tokAt ws i).bytes = some n ∧ lo ≤ n ∧ n ≤ hi := by
  unfold numFault at h
  by_cases q : i ≥ ws.length
  · rw [if_pos q] at h; cases h
  · rw [if_neg q] at h
    refine ⟨by omega, ?_⟩
    cases hn : Vbndaa.natOfToken 3 (tokAt ws i).bytes with
    | none => rw [hn] at h; cases h
    | some n =>
      rw [hn] at h
      dsimp only at h
      by_cases q2 : lo ≤ n ∧ n ≤ hi
      · exact ⟨n, rfl, q2.1, q2.2⟩
      · rw [if_neg q2] at h; cases h
theorem ev_rank_fault (C : Ctx K mg) : ∀ a : Deal × List Tok × Nat, (WsOk a.2.1 ∧ a.1.rankValues.length ≤ 100000) → ∀ W, Rt (t_rank_fault K) (envOf ["sheet", "words", "end", "fault", "rank", "points"] [dSheet K a.1, dWs K a.2.1, dN a.2.2]) W (rD (dFt K (rankFault a.1 a.2.1 a.2.2))) := fun ⟨x, ws, e⟩ ⟨h, hr⟩ W => by
  dsimp only at h hr ⊢
  unfold rankFault
  have hf := numFault_some (ws := ws) (i := 1) (e := e) (lo := 1) (hi := 13)
  refine rt_seq (nx_set (ev_call (ws, 1, e, 1, 13) h (ea_cons ev_var (ea_cons ev_c (ea_cons ev_var (ea_cons ev_c (ea_cons ev_c ea_nil))))))) ?_
  generalize numFault ws 1 e 1 13 = f at hf ⊢
  have tst : ∀ {G : En}, f = (0, 0) → G[1]? = some (some (.pl (dWs K ws))) → G[0]? = some (some (.pl (dSheet K x))) → (((G.set 5 none).set 4 none)[0]? = G[0]?) → (∀ y : Nat × Nat, ((((G.set 5 none).set 4 none).set 4 (some (.pl (dN y.1)))).set 5 (some (.pl (dN y.2))))[4]? = some (some (.pl (dN y.1)))) →
      EvT (tTest (tOp (rIn K false) (tCall (sp_number_in K) [] E0 (tCons (tOp (rIxT K) (tOp (rIxL K) (tVar 1) (tC (.int 1))) (tC (.int 1))) (tNil))) (tLc (iList K (tFld K (tVar 0) "worths")) (gTup K 2 (gCons (gName 4) (gCons (gName 5) (gNil)))) (tYes) (tVar 4) [4, 5]))) G W ((x.rankValues.map (·.1)).contains ((Vbndaa.natOfToken 3 (tokAt ws 1).bytes).getD 0)) := fun hz g1 g0 _ g4 => by
    obtain ⟨l1, n, hn, _, _⟩ := hf hz
    refine et_test (ev_isM ((ev_call (tokAt ws 1).bytes (ws_at h) (ea_cons (ev_tokB (i := 1) (ev_var g1) ev_c l1) ea_nil)).to (by rw [hn]; rfl)) (Ev.to (EvO.ev (evO_lcm x.rankValues (fun y => dT K [dN y.1, dN y.2]) (fun y => dN y.1) (fun y G => (G.set 4 (some (.pl (dN y.1)))).set 5 (some (.pl (dN y.2)))) [4, 5] (ei_list (evs C (ev_var g0) fn_Sheet_worths rfl)) (fun _ _ => tg_tup (tgs_cons tg_name (tgs_cons tg_name tgs_nil))) (fun y _ => ev_var (g4 y)) (fun j h => h) (szl hr))) ?_))
    exact dL_mm.symm
  refine rt_ifR (b := decide (f = (0, 0)) && (x.rankValues.map (·.1)).contains ((Vbndaa.natOfToken 3 (tokAt ws 1).bytes).getD 0)) (et_and (et_test (ev_isNo C ev_var)) fun q => tst (of_decide_eq_true q) rfl rfl rfl fun _ => rfl) (fun q => ?_) fun q => ?_
  · rw [Bool.and_eq_true, decide_eq_true_eq] at q
    rw [if_pos q]
    exact rt_ret (ev_ft (a := 4) ev_c (ev_tokO (i := 1) ev_var ev_c (hf q.1).1))
  · rw [if_neg (by rw [← Bool.not_eq_true, Bool.and_eq_true, decide_eq_true_eq] at q; exact q)]
    exact rt_ret ev_var
theorem ok_rank_fault {P : Program} {w : World} {K : PySem.W.Frag} {mg : Str → Option Value} {base : Heap} (C : Ctx K mg) : Ok P w K mg base 4 "rank_fault" ["sheet", "words", "end"] (sp_rank_fault K) :=
  ok_gen C 65 rfl rfl sc_rank_fault fg_rank_fault (fun _ _ _ _ _ _ hr o => dv_rank_fault o (fun _ => rfl) ((ok_number_fault C).cal hr (by decide)) ((ok_number_in C).cal hr (by decide))) (fun _ _ _ _ _ _ us hl => match us, hl with | [_, _, _], _ => rfl) (len_of fun _ => rfl) fun _ _ _ _ h => reads_of (ev_rank_fault C) h
def lenFault (x : Deal) (ws : List Tok) : Nat × Nat := if x.seats.isEmpty = false ∧ ws.length - 2 ≠ sizeOfDeal x then (13, (tokAt ws 0).offset) else (0, 0)
def sp_length_fault (K : PySem.W.Frag) : Sp := spOf (fun a : Deal × List Tok => 2 ≤ a.2.length) (fun a => [dSheet K a.1, dWs K a.2]) (fun a => dFt K (lenFault a.1 a.2))
/-! length_fault -/
def N_length_fault : List Str := ["sheet", "words"]
theorem sc_length_fault : FnScope ["sheet", "words"] ["sheet", "words"] (defScope s_length_fault) := ⟨rfl, rfl, rfl, by decide +kernel, rfl, by decide +kernel, by decide +kernel⟩
theorem nm_length_fault : nmB ["sheet", "words"] (defScope s_length_fault) [0, 1] [] ["len", "OTHER_LENGTH", "NO_FAULT"] = true := by decide +kernel
def t_length_fault (K : PySem.W.Frag) : TS := tSeq (tIfS (tAnd (tTest (tOp (rNeD K) (tFld K (tVar 0) "hands") (tLst (tNil)))) (tTest (tOp rNe (tOp oSub (tCB (cLen K) (tCons (tVar 1) (tNil))) (tC (.int 2))) (tCB (cLen K) (tCons (tOp (rIxL K) (tFld K (tVar 0) "hands") (tC (.int 0))) (tNil)))))) (tRet (tTup (tCons (tC (.int (13))) (tCons (tOp (rIxT K) (tOp (rIxL K) (tVar 1) (tC (.int 0))) (tC (.int 0))) (tNil))))) (tNext)) (tRet (tC (.ref (He.ga K "NO_FAULT"))))
theorem dv_length_fault {X : Cx} (o0 : On fa X ["sheet", "words"] (defScope s_length_fault)) (hf : ∀ x, X.fn x = true) : PSs X (defBody s_length_fault) (t_length_fault X.K) := by
  have n0 := nm_length_fault
  exact pss_cons (ps_if (PW.pt (pw_and (pt_cmpR (op_neD o0.hu) (pe_fld (av o0 n0 0 (gm 0 rfl) rfl) rfl) (pe_lst (pa_nil)) (nomark _)) (pw_and1 (pt_cmpR op_ne (pe_op op_sub (acb o0 n0 call_len_seq (by decide +kernel) (pa_cons (av o0 n0 1 (gm 1 rfl) rfl) (pa_nil)) (gm 0 rfl) f_len) (pe_int)) (acb o0 n0 call_len_seq (by decide +kernel) (pa_cons (pe_ix ix_list (pe_fld (av o0 n0 0 (gm 0 rfl) rfl) rfl) (pe_int) (fun _ _ => rfl)) (pa_nil)) (gm 0 rfl) f_len) (nomark _))))) (pss_one (ps_ret (pe_tup (pa_cons (agi o0 n0 (gm 1 rfl) f_OTHER_LENGTH) (pa_cons (pe_ix ix_tup (pe_ix ix_list (av o0 n0 1 (gm 1 rfl) rfl) (pe_int) (fun _ _ => rfl)) (pe_int) (fun _ _ => rfl)) (pa_nil)))))) (pss_nil)) (pss_one (ps_ret (agr o0 n0 (gm 2 rfl) f_NO_FAULT)))
theorem ev_length_fault (C : Ctx K mg) : ∀ a : Deal × List Tok, 2 ≤ a.2.length → ∀ W, Rt (t_length_fault K) (envOf ["sheet", "words"] [dSheet K a.1, dWs K a.2]) W (rD (dFt K (lenFault a.1 a.2))) := fun ⟨x, ws⟩ h W => by
  dsimp only at h ⊢
  unfold lenFault
  refine rt_ifR (b := !x.seats.isEmpty && !decide (ws.length - 2 = sizeOfDeal x)) (et_and (et_test (ev_someD (g := fun s : Vbndao.Seat => yNs s.cards) (evs C ev_var fn_Sheet_hands rfl) (fun s => dat_ns s.cards) fun s _ => lay_ns s.cards)) fun q => (et_test (ev_neI (j := (sizeOfDeal x : Int)) (ev_I0 (ev_lenM ev_var) ev_c) ?_)).to (congrArg not (decide_eq_decide.mpr (by show ((ws.length : Nat) : Int) - 2 = _ ↔ _; omega)))) (fun q => ?_) fun q => ?_
  · cases hs : x.seats with
    | nil => rw [hs] at q; cases q
    | cons s r =>
      have hz : sizeOfDeal x = s.cards.length := by unfold sizeOfDeal; rw [hs]; rfl
      rw [hz]
      exact ev_lenM (ev_ixL (j := 0) (evs C (x := x) ev_var fn_Sheet_hands rfl) ev_c (by rw [hs]; rfl))
  · rw [if_pos (by simpa using q)]
    exact rt_ret (ev_ft (a := 13) ev_c (ev_tokO (i := 0) ev_var ev_c (by omega)))
  · rw [if_neg (by simpa using q)]
    exact rt_ret (ev_no C)
theorem ok_length_fault {P : Program} {w : World} {K : PySem.W.Frag} {mg : Str → Option Value} {base : Heap} (C : Ctx K mg) : Ok P w K mg base 1 "length_fault" ["sheet", "words"] (sp_length_fault K) :=
  ok_gen C 67 rfl rfl sc_length_fault fg_length_fault (fun _ _ _ _ _ _ hr o => dv_length_fault o (fun _ => rfl)) (fun _ _ _ _ _ _ us hl => match us, hl with | [_, _], _ => rfl) (len_of fun _ => rfl) fun _ _ _ _ h => reads_of (ev_length_fault C) h
def wholeFault (x : Deal) (e : Nat) : Nat × Nat := if x.seats.length < 2 then (9, e) else if x.seats.length > 2 ∧ sizeOfDeal x > 3 then (11, e) else if optI x.firstLeader ≥ (x.seats.length : Int) then (12, e) else (0, 0)
def sp_whole_fault (K : PySem.W.Frag) : Sp := spOf (fun _ : Deal × Nat => True) (fun a => [dSheet K a.1, dN a.2]) (fun a => dFt K (wholeFault a.1 a.2))
/-! whole_fault -/
def N_whole_fault : List Str := ["sheet", "end"]
theorem sc_whole_fault : FnScope ["sheet", "end"] ["sheet", "end"] (defScope s_whole_fault) := ⟨rfl, rfl, rfl, by decide +kernel, rfl, by decide +kernel, by decide +kernel⟩
theorem nm_whole_fault : nmB ["sheet", "end"] (defScope s_whole_fault) [0, 1] [] ["len", "FEW_HANDS", "MOST_CARDS_OF_MANY", "LONG_HANDS", "NO_LEADER", "NO_FAULT"] = true := by decide +kernel
def t_whole_fault (K : PySem.W.Frag) : TS := tSeq (tIfS (tTest (tOp oLt (tCB (cLen K) (tCons (tFld K (tVar 0) "hands") (tNil))) (tC (.int 2)))) (tRet (tTup (tCons (tC (.int (9))) (tCons (tVar 1) (tNil))))) (tNext)) (tSeq (tIfS (tAnd (tTest (tOp oGt (tCB (cLen K) (tCons (tFld K (tVar 0) "hands") (tNil))) (tC (.int 2)))) (tTest (tOp oGt (tCB (cLen K) (tCons (tOp (rIxL K) (tFld K (tVar 0) "hands") (tC (.int 0))) (tNil))) (tC (.int (3)))))) (tRet (tTup (tCons (tC (.int (11))) (tCons (tVar 1) (tNil))))) (tNext)) (tSeq (tIfS (tTest (tOp oGe (tFld K (tVar 0) "lead") (tCB (cLen K) (tCons (tFld K (tVar 0) "hands") (tNil))))) (tRet (tTup (tCons (tC (.int (12))) (tCons (tVar 1) (tNil))))) (tNext)) (tRet (tC (.ref (He.ga K "NO_FAULT"))))))
theorem dv_whole_fault {X : Cx} (o0 : On fa X ["sheet", "end"] (defScope s_whole_fault)) (hf : ∀ x, X.fn x = true) : PSs X (defBody s_whole_fault) (t_whole_fault X.K) := by
  have n0 := nm_whole_fault
  exact pss_cons (ps_if (pt_cmpR op_lt (acb o0 n0 call_len_seq (by decide +kernel) (pa_cons (pe_fld (av o0 n0 0 (gm 0 rfl) rfl) rfl) (pa_nil)) (gm 0 rfl) f_len) (pe_int) (nomark _)) (pss_one (ps_ret (pe_tup (pa_cons (agi o0 n0 (gm 1 rfl) f_FEW_HANDS) (pa_cons (av o0 n0 1 (gm 1 rfl) rfl) (pa_nil)))))) (pss_nil)) (pss_cons (ps_if (PW.pt (pw_and (pt_cmpR op_gt (acb o0 n0 call_len_seq (by decide +kernel) (pa_cons (pe_fld (av o0 n0 0 (gm 0 rfl) rfl) rfl) (pa_nil)) (gm 0 rfl) f_len) (pe_int) (nomark _)) (pw_and1 (pt_cmpR op_gt (acb o0 n0 call_len_seq (by decide +kernel) (pa_cons (pe_ix ix_list (pe_fld (av o0 n0 0 (gm 0 rfl) rfl) rfl) (pe_int) (fun _ _ => rfl)) (pa_nil)) (gm 0 rfl) f_len) (agi o0 n0 (gm 2 rfl) f_MOST_CARDS_OF_MANY) (nomark _))))) (pss_one (ps_ret (pe_tup (pa_cons (agi o0 n0 (gm 3 rfl) f_LONG_HANDS) (pa_cons (av o0 n0 1 (gm 1 rfl) rfl) (pa_nil)))))) (pss_nil)) (pss_cons (ps_if (pt_cmpR op_ge (pe_fld (av o0 n0 0 (gm 0 rfl) rfl) rfl) (acb o0 n0 call_len_seq (by decide +kernel) (pa_cons (pe_fld (av o0 n0 0 (gm 0 rfl) rfl) rfl) (pa_nil)) (gm 0 rfl) f_len) (nomark _)) (pss_one (ps_ret (pe_tup (pa_cons (agi o0 n0 (gm 4 rfl) f_NO_LEADER) (pa_cons (av o0 n0 1 (gm 1 rfl) rfl) (pa_nil)))))) (pss_nil)) (pss_one (ps_ret (agr o0 n0 (gm 5 rfl) f_NO_FAULT)))))
theorem ev_whole_fault (C : Ctx K mg) : ∀ a : Deal × Nat, True → ∀ W, Rt (t_whole_fault K) (envOf ["sheet", "end"] [dSheet K a.1, dN a.2]) W (rD (dFt K (wholeFault a.1 a.2))) := fun ⟨x, e⟩ _ W => by
  dsimp only
  unfold wholeFault
  refine rt_ifR (b := decide (x.seats.length < 2)) ((et_test (ev_I0 (ev_lenM (evs C ev_var fn_Sheet_hands rfl)) ev_c)).to (decide_eq_decide.mpr (by show ((x.seats.length : Nat) : Int) < 2 ↔ _; omega))) (fun q => ?_) fun q => ?_
  · rw [if_pos (of_decide_eq_true q)]
    exact rt_ret (ev_ft (a := 9) ev_c ev_var)
  have q := of_decide_eq_false q
  rw [if_neg q]
  obtain ⟨s, r, hs⟩ : ∃ s r, x.seats = s :: r := by
    cases hs : x.seats with
    | nil => rw [hs] at q; simp at q
    | cons s r => exact ⟨s, r, rfl⟩
  have hz : sizeOfDeal x = s.cards.length := by unfold sizeOfDeal; rw [hs]; rfl
  refine rt_ifR (b := decide (x.seats.length > 2) && decide (sizeOfDeal x > 3)) (et_and ((et_test (ev_I0 (ev_lenM (evs C (x := x) ev_var fn_Sheet_hands rfl)) ev_c)).to (decide_eq_decide.mpr (by show (2 : Int) < ((x.seats.length : Nat) : Int) ↔ _; omega))) fun _ => (et_test (ev_I0 (ev_lenM (l := s.cards) (ev_ixL (j := 0) (evs C (x := x) ev_var fn_Sheet_hands rfl) ev_c (by rw [hs]; rfl))) ev_c)).to (decide_eq_decide.mpr (by show (3 : Int) < ((s.cards.length : Nat) : Int) ↔ _; omega))) (fun q => ?_) fun q => ?_
  · rw [if_pos (by simpa using q)]
    exact rt_ret (ev_ft (a := 11) ev_c ev_var)
  rw [if_neg (by simpa using q)]
  refine rt_ifR (et_test (ev_I0 (evs C (x := x) ev_var fn_Sheet_lead rfl) (ev_lenM (evs C (x := x) ev_var fn_Sheet_hands rfl)))) (fun q => ?_) fun q => ?_
  · rw [if_pos (of_decide_eq_true q)]
    exact rt_ret (ev_ft (a := 12) ev_c ev_var)
  · rw [if_neg (of_decide_eq_false q)]
    exact rt_ret (ev_no C)
theorem ok_whole_fault {P : Program} {w : World} {K : PySem.W.Frag} {mg : Str → Option Value} {base : Heap} (C : Ctx K mg) : Ok P w K mg base 1 "whole_fault" ["sheet", "end"] (sp_whole_fault K) :=
  ok_gen C 70 rfl rfl sc_whole_fault fg_whole_fault (fun _ _ _ _ _ _ hr o => dv_whole_fault o (fun _ => rfl)) (fun _ _ _ _ _ _ us hl => match us, hl with | [_, _], _ => rfl) (len_of fun _ => rfl) fun _ _ _ _ h => reads_of (ev_whole_fault C) h
end
end Fd

namespace Fd
open PySem PySem.Spec PyProof.Rows L2
open Vbndao (Deal Position)
section
variable {P : Program} {w : World} {K : PySem.W.Frag} {mg : Str → Option Value} {base : Heap}
theorem ev_isO {neg : Bool} {G : En} {W W0 : Wd} {ta : TE} {i c : Nat} {l : List Nat} (ha : Ev ta G W (dN c)) (hG : G[i]? = some (some (.ow (ownL W0 (l.map dN))))) : Ev (tOp (rIn K neg) ta (tVar i)) G W (dB (if neg then !l.contains c else l.contains c)) := fun σ W1 l1 s Q q => by
  refine ha σ W1 l1 s _ fun x W2 l2 ex => ?_
  obtain ⟨v, hv, p, vs, e, n, f, hH, a⟩ := (s.mono l2).get hG
  subst e
  have e2 : vs = (l.map fun (n : Nat) => (n : Int)).map V.int := AllD.of_vals (by rw [List.map_map, List.map_map]; exact a)
  subst e2
  refine ⟨_, hv, p, _, rfl, .inl (.inl (.inl hH)), by rw [show x = _ from ex]; rfl, ?_, ?_⟩
  · refine List.all_eq_true.mpr fun z hz => ?_
    obtain ⟨i, _, rfl⟩ := List.mem_map.mp hz
    rfl
  · rw [show x = .int (c : Int) from ex, List.map_map]
    have := inV_nat c l
    rw [show (l.map (V.int ∘ fun (n : Nat) => (n : Int))) = l.map fun (n : Nat) => V.int (n : Int) from rfl, this]
    exact q _ W2 l2 rfl
theorem rt_from {t : TS} {G G' : En} {W : Wd} {R : V → Wd → Prop} (e : G = G') (h : Rt t G W R) : Rt t G' W R := e ▸ h
theorem first_bad (p : Nat → Bool) : ∀ n, ∃ m, m ≤ n ∧ (∀ i, i < m → p i = false) ∧ (m < n → p m = true)
  | 0 => ⟨0, Nat.le_refl _, fun i h => absurd h (Nat.not_lt_zero _), fun h => absurd h (Nat.not_lt_zero _)⟩
  | n + 1 => by
    obtain ⟨m, h1, h2, h3⟩ := first_bad p n
    by_cases h : m < n
    · exact ⟨m, by omega, h2, fun _ => h3 h⟩
    · have e : m = n := by omega
      subst e
      cases hp : p m with
      | true => exact ⟨m, by omega, h2, fun _ => hp⟩
      | false => exact ⟨m + 1, Nat.le_refl _, fun i hi => by
          by_cases e : i = m
          · rw [e]; exact hp
          · exact h2 i (by omega), fun h => absurd h (Nat.lt_irrefl _)⟩
def cardC (y : Tok) : Nat := (Vbndao.cardOfToken y.bytes).getD 0
def cardBad (i : Nat) (taken : List Nat) (y : Tok) : Option (Nat × Nat) := if i = 4 then some (7, y.offset) else match Vbndao.cardOfToken y.bytes with
  | none => some (1, y.offset)
  | some c => if taken.contains c = true then some (4, y.offset) else none
def cardsFrom : Nat → List Nat → List Tok → Nat × Nat
  | _, _, [] => (0, 0)
  | i, taken, y :: r => match cardBad i taken y with
    | some f => f
    | none => cardsFrom (i + 1) (taken ++ [cardC y]) r
def takenAt (T : List Nat) (ws : List Tok) (i : Nat) : List Nat := T ++ (ws.take i).map cardC
theorem taken_succ {T : List Nat} {ws : List Tok} {i : Nat} (h : i < ws.length) : takenAt T ws (i + 1) = takenAt T ws i ++ [cardC (tokAt ws i)] := by
  unfold takenAt
  have e : ws[i]? = some (tokAt ws i) := by unfold tokAt; rw [List.getD_eq_getElem?_getD, List.getElem?_eq_getElem h]; rfl
  rw [take_get e, List.map_append, List.append_assoc]
  rfl
theorem cards_from {T : List Nat} {ws : List Tok} : ∀ i, i ≤ ws.length → (∀ j, j < i → cardBad j (takenAt T ws j) (tokAt ws j) = none) → cardsFrom 0 T ws = cardsFrom i (takenAt T ws i) (ws.drop i)
  | 0, _, _ => by unfold takenAt; rw [List.take_zero, List.map_nil, List.append_nil, List.drop_zero]
  | i + 1, hi, h => by
    rw [cards_from i (by omega) fun j hj => h j (by omega)]
    have e : ws.drop i = tokAt ws i :: ws.drop (i + 1) := by
      rw [List.drop_eq_getElem_cons (by omega)]
      unfold tokAt
      rw [List.getD_eq_getElem?_getD, List.getElem?_eq_getElem (by omega)]
      rfl
    rw [e]
    conv => lhs; unfold cardsFrom
    rw [h i (by omega), taken_succ (by omega)]
def cardsFault (x : Deal) (ws : List Tok) : Nat × Nat := cardsFrom 0 (Vbndao.allCards x) (ws.drop 2)
def sp_cards_fault (K : PySem.W.Frag) : Sp := spOf (fun a : Deal × List Tok => WsOk a.2 ∧ (Vbndao.allCards a.1).length ≤ 100000) (fun a => [dSheet K a.1, dWs K a.2]) (fun a => dFt K (cardsFault a.1 a.2))
/-! cards_fault -/
def N_cards_fault : List Str := ["sheet", "words", "taken", "at", "place", "word", "card"]
theorem sc_cards_fault : FnScope ["sheet", "words", "taken", "at", "place", "word", "card"] ["sheet", "words"] (defScope s_cards_fault) := ⟨rfl, rfl, rfl, by decide +kernel, rfl, by decide +kernel, by decide +kernel⟩
theorem nm_cards_fault : nmB ["sheet", "words", "taken", "at", "place", "word", "card"] (defScope s_cards_fault) [0, 1, 5, 3, 4, 6, 2] [2, 3, 4, 5, 6] ["cards_on", "enumerate", "card_in", "MOST_CARDS_reading", "TOO_MANY", "NONE_SAID", "WRONG_WORD", "TWICE", "NO_FAULT"] = true := by decide +kernel
def t_cards_fault (K : PySem.W.Frag) : TS := tSeq (tAsg (tCall (sp_cards_on K) [] E0 (tCons (tVar 0) (tNil))) (gName 2)) (tSeq (tFor (iEnum K (tCons (tSl (rSlL K) (tVar 1) (tPart (tC (.int 2))) (tNoPart)) (tNil))) (gTup K 2 (gCons (gName 3) (gCons (gTup K 2 (gCons (gName 4) (gCons (gName 5) (gNil)))) (gNil)))) (tSeq (tAsg (tCall (sp_card_in K) [] E0 (tCons (tVar 5) (tNil))) (gName 6)) (tSeq (tIfS (tTest (tOp rEq (tVar 3) (tC (.int (4))))) (tRet (tTup (tCons (tC (.int (7))) (tCons (tVar 4) (tNil))))) (tNext)) (tSeq (tIfS (tTest (tOp rEq (tVar 6) (tC (.int (-1))))) (tRet (tTup (tCons (tC (.int (1))) (tCons (tVar 4) (tNil))))) (tNext)) (tSeq (tIfS (tTest (tOp (rIn K false) (tVar 6) (tVar 2))) (tRet (tTup (tCons (tC (.int (4))) (tCons (tVar 4) (tNil))))) (tNext)) (tDrop (tBM K "list" rAppend (tVar 2) (tCons (tVar 6) (tNil))))))))) (tRet (tC (.ref (He.ga K "NO_FAULT")))))
theorem dv_cards_fault {X : Cx} (o0 : On fa X ["sheet", "words", "taken", "at", "place", "word", "card"] (defScope s_cards_fault)) (hf : ∀ x, X.fn x = true) (c_cards_on : Cal X "cards_on" (sp_cards_on X.K)) (c_card_in : Cal X "card_in" (sp_card_in X.K)) : PSs X (defBody s_cards_fault) (t_cards_fault X.K) := by
  have n0 := nm_cards_fault
  exact pss_cons (aset o0 n0 hf 2 (acall o0 n0 c_cards_on (pa_cons (av o0 n0 0 (gm 0 rfl) rfl) (pa_nil)) (gm 0 rfl)) (gm 0 rfl) rfl) (pss_cons (ps_for o0.nev o0.calm (pi_enum (o0.gl n0 (gm 1 rfl)) (o0.gb.free f_enumerate) (pa_cons (pe_slice sl_list (av o0 n0 1 (gm 1 rfl) rfl) (po_some (pe_int)) (po_none)) (pa_nil))) (pg_tup o0.calm (pgs_cons (ag o0 n0 hf 3 (gm 1 rfl) rfl) (pgs_cons (pg_tup o0.calm (pgs_cons (ag o0 n0 hf 4 (gm 2 rfl) rfl) (pgs_cons (ag o0 n0 hf 5 (gm 3 rfl) rfl) (pgs_nil)))) (pgs_nil)))) (pss_cons (aset o0 n0 hf 6 (acall o0 n0 c_card_in (pa_cons (av o0 n0 5 (gm 2 rfl) rfl) (pa_nil)) (gm 2 rfl)) (gm 4 rfl) rfl) (pss_cons (ps_if (pt_cmpR op_eq (av o0 n0 3 (gm 3 rfl) rfl) (agi o0 n0 (gm 3 rfl) f_MOST_CARDS_reading) (nomark _)) (pss_one (ps_ret (pe_tup (pa_cons (agi o0 n0 (gm 4 rfl) f_TOO_MANY) (pa_cons (av o0 n0 4 (gm 4 rfl) rfl) (pa_nil)))))) (pss_nil)) (pss_cons (ps_if (pt_cmpR op_eq (av o0 n0 6 (gm 5 rfl) rfl) (agi o0 n0 (gm 5 rfl) f_NONE_SAID) (nomark _)) (pss_one (ps_ret (pe_tup (pa_cons (agi o0 n0 (gm 6 rfl) f_WRONG_WORD) (pa_cons (av o0 n0 4 (gm 4 rfl) rfl) (pa_nil)))))) (pss_nil)) (pss_cons (ps_if (pt_cmpR op_in_seq (av o0 n0 6 (gm 5 rfl) rfl) (av o0 n0 2 (gm 6 rfl) rfl) (by with_unfolding_all rfl)) (pss_one (ps_ret (pe_tup (pa_cons (agi o0 n0 (gm 7 rfl) f_TWICE) (pa_cons (av o0 n0 4 (gm 4 rfl) rfl) (pa_nil)))))) (pss_nil)) (pss_one (ps_expr (pe_bm PySem.F.plainAttrs_list PySem.F.slot_list_append PySem.F.type_list_append mt_append (av o0 n0 2 (gm 6 rfl) rfl) (pa_cons (av o0 n0 6 (gm 5 rfl) rfl) (pa_nil)))))))))) (pss_one (ps_ret (agr o0 n0 (gm 8 rfl) f_NO_FAULT))))
theorem ev_cards_fault (C : Ctx K mg) : ∀ a : Deal × List Tok, (WsOk a.2 ∧ (Vbndao.allCards a.1).length ≤ 100000) → ∀ W, Rt (t_cards_fault K) (envOf ["sheet", "words", "taken", "at", "place", "word", "card"] [dSheet K a.1, dWs K a.2]) W (rD (dFt K (cardsFault a.1 a.2))) := fun ⟨x, ws0⟩ ⟨hw, hx⟩ W => by
  dsimp only at hw hx ⊢
  unfold cardsFault
  have hc : ∀ {G : En}, G[1]? = some (some (.pl (dWs K ws0))) → Ev (tSl (rSlL K) (tVar 1) (tPart (tC (.int 2))) tNoPart) G W (dWs K (ws0.drop 2)) := fun g1 => (EvO.ev (evO_slL (lo := some ((2 : Nat) : Int)) (hi := none) (ev_var g1) (evp_some ev_c) evp_no)).to (by rw [cut_from])
  have hb : ∀ i, (tokAt (ws0.drop 2) i).bytes.length ≤ 100000 := fun i => by
    unfold tokAt
    rw [List.getD_eq_getElem?_getD]
    cases e : (ws0.drop 2)[i]? with
    | none => exact Nat.zero_le _
    | some y => exact hw.2 y (List.mem_of_mem_drop (List.mem_of_getElem? e))
  have hl : (ws0.drop 2).length ≤ 100000 := by rw [List.length_drop]; have := hw.1; omega
  have hT : ∀ i, i ≤ (ws0.drop 2).length → (takenAt (Vbndao.allCards x) (ws0.drop 2) i).length ≤ 200000 := fun i hi => by
    unfold takenAt
    rw [List.length_append, List.length_map, List.length_take]
    omega
  refine rt_seq (nx_setO (evO_call x hx (ea_cons ev_var ea_nil))) ?_
  generalize ws0.drop 2 = ws at hc hb hl hT ⊢
  generalize Vbndao.allCards x = T at hT ⊢
  obtain ⟨m, m1, m2, m3⟩ := first_bad (fun i => (cardBad i (takenAt T ws i) (tokAt ws i)).isSome) ws.length
  have m2 : ∀ j, j < m → cardBad j (takenAt T ws j) (tokAt ws j) = none := fun j hj => by simpa using m2 j hj
  rw [cards_from m m1 m2]
  refine rt_from ?_ (rt_forM (List.range ws.length) (fun i => dT K [dN i, dTok K (ws.getD i ⟨0, []⟩)]) (fun i => [some (.pl (dSheet K x)), some (.pl (dWs K ws0)), some (.ow (ownL W ((takenAt T ws i).map dN))), none, none, none, none])
    (fun i G => ((G.set 3 (some (.pl (dN i)))).set 4 (some (.pl (dN (tokAt ws i).offset)))).set 5 (some (.pl (dNs (tokAt ws i).bytes)))) [3, 4, 5] [3, 4, 5, 6] m (by rw [List.length_range]; exact m1) ?_ (fun i _ => tg_tup (n := 2) (tgs_cons tg_name (tgs_cons (tg_tup (n := 2) (tgs_cons tg_name (tgs_cons tg_name tgs_nil))) tgs_nil))) (fun i a hi ha => ?_) (fun a ha => ?_) fun hx => ?_)
  · unfold takenAt
    rw [List.take_zero, List.map_nil, List.append_nil]
    rfl
  · have h := ei_enumN (K := K) (G := [some (.pl (dSheet K x)), some (.pl (dWs K ws0)), some (.ow (ownL W ((takenAt T ws 0).map dN))), none, none, none, none]) (W := W) (⟨0, []⟩ : Tok) (hc rfl)
    exact h
  · obtain ⟨rfl, hl2⟩ := rg_get ha
    have hn := m2 a hi
    unfold cardBad at hn
    by_cases e4 : a = 4
    · rw [if_pos e4] at hn; cases hn
    rw [if_neg e4] at hn
    cases hcd : Vbndao.cardOfToken (tokAt ws a).bytes with
    | none => rw [hcd] at hn; cases hn
    | some c =>
      rw [hcd] at hn
      dsimp only at hn
      have hnc : (takenAt T ws a).contains c = false := by
        cases q : (takenAt T ws a).contains c with
        | false => rfl
        | true => rw [q, if_pos rfl] at hn; cases hn
      have ecc : cardC (tokAt ws a) = c := by unfold cardC; rw [hcd]; rfl
      refine ⟨_, nx_seq (nx_set (d := dN c) ((ev_call (tokAt ws a).bytes (hb a) (ea_cons ev_var ea_nil)).to (by rw [hcd]; rfl))) (nx_seq (nx_ifF ((et_test (ev_eqI ev_var ev_c)).to (decide_eq_false (by omega))) nx_skip) (nx_seq (nx_ifF ((et_test (ev_eqI (i := (c : Int)) ev_var ev_c)).to (decide_eq_false (by omega))) nx_skip)
        (nx_seq (nx_ifF ((et_test (ev_isO (neg := false) (i := 2) (W0 := W) (l := takenAt T ws a) (ev_var (d := dN c)) rfl)).to hnc) nx_skip) (nx_app (i := 2) (ds := (takenAt T ws a).map dN) rfl rfl (ev_var (d := dN c)) (by rw [List.length_map]; exact Nat.lt_of_le_of_lt (hT a (by omega)) (by decide)))))), ?_⟩
      rw [taken_succ hl2, ecc, List.map_append]
      rfl
  · obtain ⟨rfl, hl2⟩ := rg_get ha
    have hs := m3 hl2
    have ed : ws.drop a = tokAt ws a :: ws.drop (a + 1) := by
      rw [List.drop_eq_getElem_cons hl2]
      unfold tokAt
      rw [List.getD_eq_getElem?_getD, List.getElem?_eq_getElem hl2]
      rfl
    rw [ed]
    unfold cardsFrom
    unfold cardBad at hs ⊢
    refine rt_seq (nx_set (ev_call (tokAt ws a).bytes (hb a) (ea_cons ev_var ea_nil))) ?_
    refine rt_ifR (b := decide (a = 4)) ((et_test (ev_eqI ev_var ev_c)).to (decide_eq_decide.mpr (by omega))) (fun q => ?_) fun q => ?_
    · rw [if_pos (of_decide_eq_true q)]
      exact rt_ret (ev_ft (a := 7) ev_c ev_var)
    rw [if_neg (of_decide_eq_false q)] at hs ⊢
    refine rt_ifR ((et_test (ev_eqI ev_var ev_c)).to (opt_none _)) (fun q => ?_) fun q => ?_
    · rw [Option.isNone_iff_eq_none] at q
      rw [q]
      exact rt_ret (ev_ft (a := 1) ev_c ev_var)
    · cases hcd : Vbndao.cardOfToken (tokAt ws a).bytes with
      | none => rw [hcd] at q; cases q
      | some c =>
        rw [hcd] at hs
        dsimp only at hs ⊢
        have hnc : (takenAt T ws a).contains c = true := by
          cases q : (takenAt T ws a).contains c with
          | true => rfl
          | false => rw [q, if_neg Bool.false_ne_true] at hs; cases hs
        rw [if_pos hnc]
        exact rt_ifR ((et_test (ev_isO (neg := false) (i := 2) (W0 := W) (c := c) (l := takenAt T ws a) ev_var rfl)).to hnc) (fun _ => rt_ret (ev_ft (a := 4) ev_c ev_var)) fun h => nomatch h
  · rw [List.length_range] at hx
    rw [hx, List.drop_eq_nil_of_le (Nat.le_refl _)]
    exact rt_ret (ev_no C)
theorem ok_cards_fault {P : Program} {w : World} {K : PySem.W.Frag} {mg : Str → Option Value} {base : Heap} (C : Ctx K mg) : Ok P w K mg base 4 "cards_fault" ["sheet", "words"] (sp_cards_fault K) :=
  ok_gen C 60 rfl rfl sc_cards_fault fg_cards_fault (fun _ _ _ _ _ _ hr o => dv_cards_fault o (fun _ => rfl) ((ok_cards_on C).cal hr (by decide)) ((ok_card_in C).cal hr (by decide))) (fun _ _ _ _ _ _ us hl => match us, hl with | [_, _], _ => rfl) (len_of fun _ => rfl) fun _ _ _ _ h => reads_of (ev_cards_fault C) h
end
end Fd

namespace Fd
open PySem PySem.Spec PyProof.Rows L2
open Vbndao (Deal Position)
section
variable {P : Program} {w : World} {K : PySem.W.Frag} {mg : Str → Option Value} {base : Heap}
/-! ### an instance whose last fields hold lists of its own -/
def AllO (W0 W : Wd) : List (Str × List Dsc) → List (Str × V) → List Addr → Prop
  | [], [], [] => True
  | o :: os, u :: us, p :: ps => (o.1 = u.1 ∧ u.2 = .ref p ∧ W0.H p = none ∧ W.F p = none ∧ ∃ xs, W.H p = some (.lst xs) ∧ AllD o.2 xs W.F) ∧ AllO W0 W os us ps
  | _, _, _ => False
theorem AllO.mono {W0 W U : Wd} (l : Le W U) : ∀ {os : List (Str × List Dsc)} {us : List (Str × V)} {ps : List Addr}, AllO W0 W os us ps → AllO W0 U os us ps
  | [], [], [], h => h
  | _ :: _, _ :: _, _ :: _, ⟨⟨h1, h2, h3, h4, xs, h5, h6⟩, h7⟩ => ⟨⟨h1, h2, h3, l.new _ _ h5 h4, xs, l.h _ _ h5, h6.mono l.f⟩, AllO.mono l h7⟩
  | [], [], _ :: _, h => h.elim
  | [], _ :: _, _, h => h.elim
  | _ :: _, [], _, h => h.elim
  | _ :: _, _ :: _, [], h => h.elim
def ownJ (W0 : Wd) (C x : Addr) (fs : List (Str × Dsc)) (os : List (Str × List Dsc)) : Own := ⟨fun v W => v = .ref x ∧ W0.H x = none ∧ W.F x = none ∧ ∃ dx vs us ps, W.H x = some (.ins C dx (vs ++ us)) ∧ AllF fs vs W.F ∧ AllO W0 W os us ps ∧ ps.Nodup,
  fun l ⟨h1, h2, h3, dx, vs, us, ps, h4, h5, h6, h7⟩ => ⟨h1, h2, l.new _ _ h4 h3, dx, vs, us, ps, l.h _ _ h4, h5.mono l.f, h6.mono l, h7⟩⟩
theorem ownI_J {W0 W : Wd} {C x : Addr} {fs : List (Str × Dsc)} {v : V} (h : (ownI W0 C x fs).ok v W) : (ownJ W0 C x fs []).ok v W := by
  obtain ⟨h1, h2, h3, dx, vs, h4, h5⟩ := h
  exact ⟨h1, h2, h3, dx, vs, [], [], by rw [List.append_nil]; exact h4, h5, trivial, List.nodup_nil⟩
/-- the lists elsewhere stay -/
theorem AllO.keep {W0 W U : Wd} (eF : W.F = U.F) : ∀ {os : List (Str × List Dsc)} {us : List (Str × V)} {ps : List Addr}, (∀ p ∈ ps, U.H p = W.H p) → AllO W0 W os us ps → AllO W0 U os us ps
  | [], [], [], _, h => h
  | _ :: _, _ :: _, p :: ps, e, ⟨⟨h1, h2, h3, h4, xs, h5, h6⟩, h7⟩ => ⟨⟨h1, h2, h3, by rw [← eF]; exact h4, xs, by rw [e p List.mem_cons_self]; exact h5, by rw [← eF]; exact h6⟩, AllO.keep eF (fun q hq => e q (List.mem_cons_of_mem _ hq)) h7⟩
  | [], [], _ :: _, _, h => h.elim
  | [], _ :: _, _, _, h => h.elim
  | _ :: _, [], _, _, h => h.elim
  | _ :: _, _ :: _, [], _, h => h.elim
theorem AllO.lst {W0 W : Wd} {p : Addr} : ∀ {os : List (Str × List Dsc)} {us : List (Str × V)} {ps : List Addr}, AllO W0 W os us ps → p ∈ ps → W0.H p = none ∧ W.F p = none ∧ ∃ xs, W.H p = some (.lst xs)
  | [], [], [], _, hp => by cases hp
  | _ :: _, _ :: _, q :: ps, ⟨⟨_, _, h3, h4, xs, h5, _⟩, h7⟩, hp => by
    rcases List.mem_cons.mp hp with e | hp
    · subst e; exact ⟨h3, h4, xs, h5⟩
    · exact AllO.lst h7 hp
  | [], [], _ :: _, h, _ => h.elim
  | [], _ :: _, _, h, _ => h.elim
  | _ :: _, [], _, h, _ => h.elim
  | _ :: _, _ :: _, [], h, _ => h.elim
theorem AllO.app {W0 W : Wd} {o : Str × List Dsc} {u : Str × V} {p : Addr} (k : o.1 = u.1 ∧ u.2 = .ref p ∧ W0.H p = none ∧ W.F p = none ∧ ∃ xs, W.H p = some (.lst xs) ∧ AllD o.2 xs W.F) : ∀ {os : List (Str × List Dsc)} {us : List (Str × V)} {ps : List Addr}, AllO W0 W os us ps → AllO W0 W (os ++ [o]) (us ++ [u]) (ps ++ [p])
  | [], [], [], _ => ⟨k, trivial⟩
  | _ :: _, _ :: _, _ :: _, ⟨h1, h2⟩ => ⟨h1, AllO.app k h2⟩
  | [], [], _ :: _, h => h.elim
  | [], _ :: _, _, h => h.elim
  | _ :: _, [], _, h => h.elim
  | _ :: _, _ :: _, [], h => h.elim
theorem AllO.keys {W0 W : Wd} : ∀ {os : List (Str × List Dsc)} {us : List (Str × V)} {ps : List Addr}, AllO W0 W os us ps → us.map (·.1) = os.map (·.1)
  | [], [], [], _ => rfl
  | _ :: _, _ :: _, _ :: _, ⟨h1, h2⟩ => by rw [List.map_cons, List.map_cons, AllO.keys h2, h1.1]
  | [], [], _ :: _, h => h.elim
  | [], _ :: _, _, h => h.elim
  | _ :: _, [], _, h => h.elim
  | _ :: _, _ :: _, [], h => h.elim
theorem AllF.keys {F : Hp} : ∀ {fs : List (Str × Dsc)} {vs : List (Str × V)}, AllF fs vs F → vs.map (·.1) = fs.map (·.1)
  | [], [], _ => rfl
  | _ :: _, _ :: _, h => by rw [List.map_cons, List.map_cons, AllF.keys h.2, h.1.1]
  | [], _ :: _, h => h.elim
  | _ :: _, [], h => h.elim
theorem putF_in {f : Str} {v : V} {us : List (Str × V)} : ∀ {vs : List (Str × V)}, f ∈ vs.map (·.1) → putF f v (vs ++ us) = putF f v vs ++ us
  | [], h => by cases h
  | (g, x) :: r, h => by
    show putF f v ((g, x) :: (r ++ us)) = _
    unfold putF
    by_cases e : g = f
    · rw [if_pos e, if_pos e]; rfl
    · rw [if_neg e, if_neg e, putF_in (by
        rcases List.mem_cons.mp h with h | h
        · exact absurd h.symm e
        · exact h)]
      rfl
theorem putF_out {f : Str} {v : V} : ∀ {vs : List (Str × V)}, f ∉ vs.map (·.1) → putF f v vs = vs ++ [(f, v)]
  | [], _ => rfl
  | (g, x) :: r, h => by
    have h1 : ¬ g = f := fun e => h (by rw [List.map_cons, e]; exact List.mem_cons_self)
    unfold putF
    rw [if_neg h1, putF_out fun k => h (List.mem_cons_of_mem _ k)]
    rfl
/-- o.f = e, f among the described fields -/
theorem nx_fldJ {G : En} {W : Wd} {te : TE} {C x : Addr} {d : Dsc} {fs : List (Str × Dsc)} {os : List (Str × List Dsc)} {f : Str} {i : Nat} (hG : G[i]? = some (some (.ow (ownJ W C x fs os)))) (hp : plainE (G.set i none) = true) (h : Ev te G W d) (hc : Cls K C) (hn : NoAttr K C f) (hf : f ∈ fs.map (·.1)) (hl : fs.length + os.length < 1000) :
    Nx (sFld K (tVar i) te f) G W (G.set i (some (.ow (ownJ W C x (putD f d fs) os)))) := fun σ W1 l s D q => by
  refine h σ W1 l s _ fun v W2 l2 o => ?_
  obtain ⟨w, hw, e, n, f2, dx, vs, us, ps, hH, a, ao, nd⟩ := (s.mono l2).get hG
  subst e
  have hlen : us.length = os.length := by have := congrArg List.length ao.keys; rwa [List.length_map, List.length_map] at this
  refine ⟨_, hw, x, C, dx, vs ++ us, rfl, hH, hc, hn, by rw [List.length_append, a.len, hlen]; exact hl, ?_⟩
  rw [putF_in (by rw [a.keys]; exact hf)]
  refine q σ (W2.own x (.ins C dx (putF f v vs ++ us)) f2 noTup_ins) ((l.trans l2).chg n f2 noTup_ins) l2.f (Sat.regrowI (W1 := W2) rfl hw hp (s.mono l2) ⟨rfl, n, f2, dx, putF f v vs, us, ps, upd_same, a.put o, AllO.keep (W := W2) (U := W2.own x (.ins C dx (putF f v vs ++ us)) f2 noTup_ins) rfl (fun p hp => ?_) ao, nd⟩)
  obtain ⟨_, _, xs, k⟩ := ao.lst hp
  exact upd_ne fun e => by subst e; rw [hH] at k; cases k
/-- o.f = [..], a new field -/
theorem nx_newJ {G : En} {W : Wd} {te : TE} {C x : Addr} {ds : List Dsc} {fs : List (Str × Dsc)} {os : List (Str × List Dsc)} {f : Str} {i : Nat} (hG : G[i]? = some (some (.ow (ownJ W C x fs os)))) (hp : plainE (G.set i none) = true) (h : EvO te G W ds) (hc : Cls K C) (hn : NoAttr K C f) (hf : f ∉ fs.map (·.1)) (ho : f ∉ os.map (·.1)) (hl : fs.length + os.length < 1000) :
    Nx (sFld K (tVar i) te f) G W (G.set i (some (.ow (ownJ W C x fs (os ++ [(f, ds)]))))) := fun σ W1 l s D q => by
  obtain ⟨w1, hw1, e1, n1, f1, dx1, vs1, us1, ps1, hH1, a1, ao1, nd1⟩ := s.get hG
  refine h σ W1 l s _ fun p xs W2 l2 np fp hHp ad => ?_
  have hw := hw1
  have hH := l2.h _ _ hH1
  have a := a1.mono l2.f
  have ao := ao1.mono l2
  have f2 := l2.new _ _ hH1 f1
  subst e1
  have hlen : us1.length = os.length := by have := congrArg List.length ao.keys; rwa [List.length_map, List.length_map] at this
  refine ⟨_, hw, x, C, dx1, vs1 ++ us1, rfl, hH, hc, hn, by rw [List.length_append, a.len, hlen]; exact hl, ?_⟩
  rw [putF_out (by
    rw [List.map_append, a.keys, ao.keys, List.mem_append]
    rintro (h | h)
    · exact hf h
    · exact ho h), List.append_assoc]
  have hpx : p ≠ x := fun e => by rw [e] at np; rw [hH1] at np; cases np
  have hpp : p ∉ ps1 := fun h => by
    obtain ⟨_, _, ys, k⟩ := ao1.lst h
    rw [np] at k; cases k
  have hk : (W2.own x (.ins C dx1 (vs1 ++ (us1 ++ [(f, V.ref p)]))) f2 noTup_ins).H p = some (.lst xs) := by
    show upd W2.H x _ p = _
    rw [upd_ne hpx]; exact hHp
  refine q σ (W2.own x (.ins C dx1 (vs1 ++ (us1 ++ [(f, V.ref p)]))) f2 noTup_ins) ((l.trans l2).chg n1 f2 noTup_ins) l2.f (Sat.regrowI (W1 := W2) rfl hw hp (s.mono l2) ⟨rfl, n1, f2, dx1, vs1, us1 ++ [(f, V.ref p)], ps1 ++ [p], upd_same, a, AllO.app (W := W2.own x (.ins C dx1 (vs1 ++ (us1 ++ [(f, V.ref p)]))) f2 noTup_ins) (p := p) ⟨rfl, rfl, l.h.free np, fp, xs, hk, ad⟩ (AllO.keep (W := W2) (U := W2.own x (.ins C dx1 (vs1 ++ (us1 ++ [(f, V.ref p)]))) f2 noTup_ins) rfl (fun r hr => ?_) ao), ?_⟩)
  · obtain ⟨_, _, ys, k⟩ := ao.lst hr
    exact upd_ne fun e => by subst e; rw [hH] at k; cases k
  · rw [List.nodup_append]
    exact ⟨nd1, List.nodup_cons.mpr ⟨by simp, List.nodup_nil⟩, fun a ha b hb => by rw [List.mem_singleton.mp hb]; exact fun e => hpp (e ▸ ha)⟩
def appO (f : Str) (d : Dsc) : List (Str × List Dsc) → List (Str × List Dsc)
  | [] => []
  | (g, ds) :: r => if g = f then (g, ds ++ [d]) :: r else (g, ds) :: appO f d r
theorem AllO.grow {W0 W U : Wd} {f : Str} {d : Dsc} {ds : List Dsc} (eF : W.F = U.F) : ∀ {os : List (Str × List Dsc)} {us : List (Str × V)} {ps : List Addr}, AllO W0 W os us ps → ps.Nodup → os.lookup f = some ds →
    ∃ p xs, us.lookup f = some (.ref p) ∧ p ∈ ps ∧ W.H p = some (.lst xs) ∧ AllD ds xs W.F ∧ (∀ v, d.ok v W.F → U.H p = some (.lst (xs ++ [v])) → (∀ q ∈ ps, q ≠ p → U.H q = W.H q) → AllO W0 U (appO f d os) us ps)
  | [], [], [], _, _, e => by cases e
  | (g, es) :: os, (k, v) :: us, p :: ps, ⟨⟨h1, h2, h3, h4, xs, h5, h6⟩, h7⟩, nd, e => by
    obtain ⟨n1, n2⟩ := List.nodup_cons.mp nd
    have h1 : g = k := h1
    subst h1
    have h2 : v = .ref p := h2
    subst h2
    simp only [List.lookup_cons] at e ⊢
    cases hb : (f == g) with
    | true =>
      rw [hb] at e
      cases Option.some.inj e
      have eg : g = f := (eq_of_beq hb).symm
      refine ⟨p, xs, rfl, List.mem_cons_self, h5, h6, fun v o hU hq => ?_⟩
      unfold appO
      rw [if_pos eg]
      exact ⟨⟨rfl, rfl, h3, by rw [← eF]; exact h4, xs ++ [v], hU, by rw [← eF]; exact AllD.app h6 ⟨o, trivial⟩⟩, AllO.keep eF (fun q hq' => hq q (List.mem_cons_of_mem _ hq') fun e => n1 (e ▸ hq')) h7⟩
    | false =>
      rw [hb] at e
      obtain ⟨p', xs', k1, k2, k3, k4, k5⟩ := AllO.grow (U := U) (d := d) eF h7 n2 e
      refine ⟨p', xs', k1, List.mem_cons_of_mem _ k2, k3, k4, fun v o hU hq => ?_⟩
      have hpp : p ≠ p' := fun e => n1 (e ▸ k2)
      unfold appO
      rw [if_neg fun e => by rw [e] at hb; rw [beq_self_eq_true] at hb; cases hb]
      exact ⟨⟨rfl, rfl, h3, by rw [← eF]; exact h4, xs, by rw [hq p List.mem_cons_self hpp]; exact h5, by rw [← eF]; exact h6⟩, k5 v o hU fun q hq' hne => hq q (List.mem_cons_of_mem _ hq') hne⟩
  | [], [], _ :: _, h, _, _ => h.elim
  | [], _ :: _, _, h, _, _ => h.elim
  | _ :: _, [], _, h, _, _ => h.elim
  | _ :: _, _ :: _, [], h, _, _ => h.elim
theorem lookup_app_none {f : Str} {us : List (Str × V)} : ∀ {vs : List (Str × V)}, f ∉ vs.map (·.1) → (vs ++ us).lookup f = us.lookup f
  | [], _ => rfl
  | (g, x) :: r, h => by
    have h1 : (f == g) = false := beq_eq_false_iff_ne.mpr fun e => h (by rw [List.map_cons, e]; exact List.mem_cons_self)
    show List.lookup f ((g, x) :: (r ++ us)) = _
    rw [List.lookup_cons, h1]
    exact lookup_app_none fun k => h (List.mem_cons_of_mem _ k)
/-- o.f.append(e), f one of the lists -/
theorem nx_appJ {G : En} {W : Wd} {te : TE} {C x : Addr} {d : Dsc} {fs : List (Str × Dsc)} {os : List (Str × List Dsc)} {ds : List Dsc} {f : Str} {i : Nat} (hG : G[i]? = some (some (.ow (ownJ W C x fs os)))) (hp : plainE (G.set i none) = true) (h : Ev te G W d) (hc : Cls K C) (hn : NoAttr K C f) (hf : f ∉ fs.map (·.1)) (ho : os.lookup f = some ds) (hl : ds.length < sizeLine) :
    Nx (tDrop (tBM K "list" rAppend (tFld K (tVar i) f) (tCons te tNil))) G W (G.set i (some (.ow (ownJ W C x fs (appO f d os))))) := fun σ W1 l s D q => by
  obtain ⟨w1, hw1, e1, n1, f1, dx, vs, us, ps, hH1, a1, ao1, nd⟩ := s.get hG
  subst e1
  obtain ⟨p, xs, k1, k2, k3, k4, _⟩ := AllO.grow (U := W1) (d := d) rfl ao1 nd ho
  refine ⟨_, hw1, x, C, dx, vs ++ us, .ref p, rfl, hH1, hc, hn, by rw [lookup_app_none (by rw [a1.keys]; exact hf)]; exact k1, .inl ⟨rfl, xs, .inl (.inl k3)⟩, ?_⟩
  refine h σ W1 l s _ fun y W2 l2 o => ?_
  have fp : W2.F p = none := l2.new _ _ k3 (ao1.lst k2).2.1
  have hp2 := l2.h _ _ k3
  refine ⟨p, xs, y, rfl, rfl, hp2, by rw [k4.len]; exact hl, ?_⟩
  have n0 := (ao1.lst k2).1
  have hxp : x ≠ p := fun e => by rw [e] at hH1; rw [k3] at hH1; cases hH1
  obtain ⟨p', xs', j1, j2, j3, j4, j5⟩ := AllO.grow (W := W2) (U := W2.own p (.lst (xs ++ [y])) fp noTup_lst) (d := d) rfl (ao1.mono l2) nd ho
  have ep : p' = p := by rw [k1] at j1; cases j1; rfl
  subst ep
  have ex : xs' = xs := by rw [hp2] at j3; cases j3; rfl
  subst ex
  refine q σ (W2.own p' (.lst (xs' ++ [y])) fp noTup_lst) ((l.trans l2).chg n0 fp noTup_lst) l2.f (Sat.regrowI (W1 := W2) rfl hw1 hp (s.mono l2) ⟨rfl, n1, l2.new _ _ hH1 f1, dx, vs, us, ps, ?_, a1.mono l2.f, j5 y o upd_same fun q hq hne => upd_ne hne, nd⟩)
  show upd W2.H p' _ x = _
  rw [upd_ne hxp]
  exact l2.h _ _ hH1
/-! ### read through: what is asked of an own thing, as if all were frozen -/
def FlatD (d : Dsc) : Prop := ∀ v (F F' : Hp), (∀ b o, F b = some o → stiff o = true → F' b = some o) → d.ok v F → d.ok v F'
theorem flat_V {x : V} : FlatD (dV x) := fun v F F' _ h => h
theorem flat_all {F F' : Hp} (e : ∀ b o, F b = some o → stiff o = true → F' b = some o) : ∀ {ds : List Dsc} {vs : List V}, (∀ d ∈ ds, FlatD d) → AllD ds vs F → AllD ds vs F'
  | [], [], _, _ => trivial
  | [], _ :: _, _, a => a.elim
  | _ :: _, [], _, a => a.elim
  | d :: ds, v :: vs, h, a => ⟨h d List.mem_cons_self v F F' e a.1, flat_all e (fun d hd => h d (List.mem_cons_of_mem _ hd)) a.2⟩
theorem flat_T {ds : List Dsc} (h : ∀ d ∈ ds, FlatD d) : FlatD (dT K ds) := fun v F F' e ⟨p, vs, ev, hp, a⟩ => by
  refine ⟨p, vs, ev, ?_, flat_all e h a⟩
  rcases hp with (hp | ⟨o, hp⟩) | hp
  · exact .inl (.inl (e _ _ hp rfl))
  · exact .inl (.inr ⟨o, e _ _ hp rfl⟩)
  · exact .inr hp
theorem flat_ft {f : Nat × Nat} : FlatD (dFt K f) := flat_T fun d hd => by
  rcases List.mem_cons.mp hd with h | hd
  · rw [h]; exact flat_V
  · rw [List.mem_singleton.mp hd]; exact flat_V
def Wd.all (W : Wd) : Wd := ⟨W.H, W.H, fun _ _ e => e, fun _ _ e _ => e⟩
/-- back from the world in which all of W1 is frozen -/
def Wd.thaw (W1 U : Wd) (l : Le W1.all U) : Wd := ⟨fun b => match W1.H b with | none => U.F b | some _ => W1.F b, U.H, fun b o e => by
  dsimp only at e
  cases k : W1.H b with
  | none => rw [k] at e; exact U.sub _ _ e
  | some u =>
    rw [k] at e
    exact l.h _ _ (W1.sub _ _ e), fun b o e st => by
  cases k : W1.H b with
  | none => exact U.tup _ _ e st
  | some u =>
    have h2 := l.h _ _ k
    rw [e] at h2
    cases h2
    exact W1.tup _ _ k st⟩
theorem Le.thaw {W1 U : Wd} (l : Le W1.all U) : Le W1 (W1.thaw U l) := ⟨fun b o e => by
  show (match W1.H b with | none => U.F b | some _ => W1.F b) = _
  rw [W1.sub _ _ e]; exact e, l.h, fun b o e n => by
  show (match W1.H b with | none => U.F b | some _ => W1.F b) = _
  rw [e]; exact n⟩
theorem thaw_flat {W1 U : Wd} (l : Le W1.all U) {d : Dsc} {v : V} (h : FlatD d) (o : d.ok v U.F) : d.ok v (W1.thaw U l).F := h v _ _ (fun b o e st => by
  show (match W1.H b with | none => U.F b | some _ => W1.F b) = _
  cases k : W1.H b with
  | none => exact e
  | some u =>
    have h2 := l.h _ _ k
    have h3 := U.sub _ _ e
    rw [h3] at h2
    cases h2
    exact W1.tup _ _ k st) o
theorem Sat.plainUp {W U : Wd} (e : Same W.F U.F) : ∀ {G : En} {σ : L2.St}, plainE G = true → Sat G σ W → Sat G σ U
  | [], [], _, h => h
  | none :: G, none :: σ, p, h => Sat.plainUp e (G := G) (σ := σ) p h
  | none :: G, some _ :: σ, p, h => Sat.plainUp e (G := G) (σ := σ) p h
  | some (.pl d) :: G, some v :: σ, p, h => ⟨d.mono e h.1, Sat.plainUp e (G := G) (σ := σ) p h.2⟩
  | some (.ow _) :: _, _, p, _ => by cases p
  | some (.pl _) :: _, none :: _, _, h => h.elim
  | [], _ :: _, _, h => h.elim
  | none :: _, [], _, h => h.elim
  | some (.pl _) :: _, [], _, h => h.elim
theorem Sat.put {σ : L2.St} {G : En} {W : Wd} {i : Nat} {t : Ty} {v : V} (hs : σ[i]? = some (some v)) (s : Sat (G.set i none) σ W) (q : t.ok v W) : Sat (G.set i (some t)) σ W := by
  have s2 := s.set (t := t) q i
  rw [List.set_set] at s2
  have e2 : σ.set i (some v) = σ := by
    obtain ⟨h1, h2⟩ := List.getElem?_eq_some_iff.mp hs
    rw [← h2]
    exact List.set_getElem_self h1
  rw [e2] at s2
  exact s2
theorem ev_thaw {G : En} {W : Wd} {te : TE} {i : Nat} {o : Own} {df d : Dsc} (hG : G[i]? = some (some (.ow o))) (hp : plainE (G.set i none) = true) (hd : ∀ v U, o.ok v U → df.ok v U.H) (fl : FlatD d) (h : ∀ W', Ev te (G.set i (some (.pl df))) W' d) : Ev te G W d := fun σ W1 l s Q q => by
  obtain ⟨v, hv, ov⟩ := s.get hG
  have s1 : Sat (G.set i (some (.pl df))) σ W1.all := Sat.put hv ((s.forget i).plainUp W1.sub hp) (t := .pl df) (hd v W1 ov)
  exact h W1.all σ W1.all (Le.refl _) s1 Q fun r U lu o2 => q r (W1.thaw U lu) (Le.thaw lu) (thaw_flat lu fl o2)
/-! ### the sheet -/
abbrev fS1 (x : Deal) : List (Str × Dsc) := [("trump", dI (optI x.trump)), ("is_ruff", dB x.mustRuff), ("trick", dI (optI x.trickValue)), ("last", dI (optI x.lastTrickBonus)), ("lead", dI (optI x.firstLeader))]
abbrev oS (K : PySem.W.Frag) (x : Deal) : List (Str × List Dsc) := [("worths", x.rankValues.map fun y => dT K [dN y.1, dN y.2]), ("sides", (x.seats.map fun s => s.side).map dN), ("hands", x.seats.map fun s => dNs s.cards)]
def ownS (K : PySem.W.Frag) (W0 : Wd) (a : Addr) (x : Deal) : Own := ownJ W0 (He.ga K "Sheet") a (fS1 x) (oS K x)
theorem allF_app {F : Hp} : ∀ {fs gs : List (Str × Dsc)} {vs us : List (Str × V)}, AllF fs vs F → AllF gs us F → AllF (fs ++ gs) (vs ++ us) F
  | [], _, [], _, _, h => h
  | _ :: _, _, _ :: _, _, h, k => ⟨h.1, allF_app h.2 k⟩
  | [], _, _ :: _, _, h, _ => h.elim
  | _ :: _, _, [], _, h, _ => h.elim
theorem AllO.fields {W0 W : Wd} {F : Hp} (e : Same W.F F) : ∀ {os : List (Str × List Dsc)} {us : List (Str × V)} {ps : List Addr}, (∀ p ∈ ps, ∀ u, W.H p = some u → F p = some u) → AllO W0 W os us ps → AllF (os.map fun o => (o.1, dL o.2)) us F
  | [], [], [], _, _ => trivial
  | _ :: _, _ :: _, p :: ps, hq, ⟨⟨h1, h2, h3, h4, xs, h5, h6⟩, h7⟩ => ⟨⟨h1, p, xs, h2, hq p List.mem_cons_self _ h5, h6.mono e⟩, AllO.fields e (fun q hq' => hq q (List.mem_cons_of_mem _ hq')) h7⟩
  | [], [], _ :: _, _, h => h.elim
  | [], _ :: _, _, _, h => h.elim
  | _ :: _, [], _, _, h => h.elim
  | _ :: _, _ :: _, [], _, h => h.elim
theorem ownS_all {W0 : Wd} {a : Addr} {x : Deal} {v : V} {U : Wd} (h : (ownS K W0 a x).ok v U) : (dSheet K x).ok v U.H := by
  obtain ⟨h1, h2, h3, dx, vs, us, ps, h4, h5, h6, h7⟩ := h
  exact ⟨a, dx, vs ++ us, h1, h4, allF_app (h5.mono U.sub) (h6.fields U.sub fun p _ u e => e)⟩
/-- freeze an instance and its lists -/
def Wd.fixS (W : Wd) (x : Addr) (ps : List Addr) : Wd := ⟨fun b => if b = x ∨ b ∈ ps then W.H b else W.F b, W.H, fun b o e => by
  dsimp only at e
  by_cases k : b = x ∨ b ∈ ps
  · rw [if_pos k] at e; exact e
  · rw [if_neg k] at e; exact W.sub _ _ e, fun b o e st => by
  by_cases k : b = x ∨ b ∈ ps
  · rw [if_pos k]; exact e
  · rw [if_neg k]; exact W.tup _ _ e st⟩
theorem ownS_fix {W0 W : Wd} {a : Addr} {x : Deal} {v : V} (l : Le W0 W) (h : (ownS K W0 a x).ok v W) : ∃ U, U.H = W.H ∧ Le W0 U ∧ Same W.F U.F ∧ (dSheet K x).ok v U.F := by
  obtain ⟨h1, h2, h3, dx, vs, us, ps, h4, h5, h6, h7⟩ := h
  have sm : Same W.F (W.fixS a ps).F := fun b u e => by
    show (if b = a ∨ b ∈ ps then W.H b else W.F b) = _
    by_cases k : b = a ∨ b ∈ ps
    · rw [if_pos k]; exact W.sub _ _ e
    · rw [if_neg k]; exact e
  refine ⟨W.fixS a ps, rfl, ⟨fun b u e => sm _ _ (l.f _ _ e), l.h, fun b u e n => ?_⟩, sm, a, dx, vs ++ us, h1, ?_, allF_app (h5.mono sm) (h6.fields sm fun p hp u e => ?_)⟩
  · show (if b = a ∨ b ∈ ps then W.H b else W.F b) = _
    rw [if_neg]
    · exact l.new _ _ e n
    · rintro (k | k)
      · rw [k, h2] at e; cases e
      · rw [(h6.lst k).1] at e; cases e
  · show (if a = a ∨ a ∈ ps then W.H a else W.F a) = _
    rw [if_pos (.inl rfl)]; exact h4
  · show (if p = a ∨ p ∈ ps then W.H p else W.F p) = _
    rw [if_pos (.inr hp)]; exact e
end
end Fd

namespace Fd
open PySem PySem.Spec PyProof.Rows L2
open Vbndao (Deal Position)
section
variable {P : Program} {w : World} {K : PySem.W.Frag} {mg : Str → Option Value} {base : Heap}
/-! ### a def that changes the sheet it is handed -/
def rS (K : PySem.W.Frag) (W0 : Wd) (x : Addr) (d : Dsc) (y : Deal) : V → Wd → Prop := fun v U => d.ok v U.F ∧ (ownS K W0 x y).ok (.ref x) U
def spS {α : Type} (K : PySem.W.Frag) (pre : α → Prop) (dom : α → List Dsc) (cod : α → Dsc) (bef aft : α → Deal) : Sp := fun vs H Q _ => ∃ (a : α) (W0 W : Wd) (x : Addr) (us : List V), vs = .ref x :: us ∧ W.H = H ∧ Le W0 W ∧ (ownS K W0 x (bef a)).ok (.ref x) W ∧ pre a ∧ AllD (dom a) us W.F ∧
  ∀ r U, Le W0 U → (ownS K W0 x (aft a)).ok (.ref x) U → (cod a).ok r U.F → Q r U.H
def envS (N : List Str) (K : PySem.W.Frag) (W0 : Wd) (x : Addr) (y : Deal) (ds : List Dsc) : En := some (.ow (ownS K W0 x y)) :: (ds.map (fun d => some (.pl d)) ++ List.replicate (N.length - (ds.length + 1)) none)
theorem reads_S {α : Type} {pre : α → Prop} {dom : α → List Dsc} {cod : α → Dsc} {bef aft : α → Deal} {N : List Str} {t : TS} (h : ∀ a, pre a → ∀ W0 x, Rt t (envS N K W0 x (bef a) (dom a)) W0 (rS K W0 x (cod a) (aft a))) {vs : List V} {H : Hp} {Q : VK} {E : XK} (k : spS K pre dom cod bef aft vs H Q E) :
    t { nx := fun _ H' => Q .non H', rt := Q } (L2.start N vs) H := by
  obtain ⟨a, W0, W, x, us, rfl, rfl, l, ow, hp, ad, q⟩ := k
  have st : Sat (envS N K W0 x (bef a) (dom a)) (L2.start N (.ref x :: us)) W := by
    unfold envS L2.start
    rw [← ad.len]
    exact ⟨ow, sat_env ad⟩
  exact h a hp W0 x _ W l st _ fun v U lu r => q v U lu r.2 r.1
theorem len_S {α : Type} {pre : α → Prop} {dom : α → List Dsc} {cod : α → Dsc} {bef aft : α → Deal} {n : Nat} (hn : ∀ a, (dom a).length + 1 = n) (vs : List V) (H : Hp) (Q : VK) (E : XK) (k : spS K pre dom cod bef aft vs H Q E) : vs.length = n := by
  obtain ⟨a, W0, W, x, us, rfl, _, _, _, _, ad, _⟩ := k
  rw [List.length_cons, ad.len, hn a]
theorem AllO.rebase {W0 W0' W : Wd} (h : ∀ b, W0.H b = none → W0'.H b = none) : ∀ {os : List (Str × List Dsc)} {us : List (Str × V)} {ps : List Addr}, AllO W0 W os us ps → AllO W0' W os us ps
  | [], [], [], h => h
  | _ :: _, _ :: _, _ :: _, ⟨⟨h1, h2, h3, h4⟩, h7⟩ => ⟨⟨h1, h2, h _ h3, h4⟩, AllO.rebase h h7⟩
  | [], [], _ :: _, h => h.elim
  | [], _ :: _, _, h => h.elim
  | _ :: _, [], _, h => h.elim
  | _ :: _, _ :: _, [], h => h.elim
/-- without an instance and its lists -/
def Wd.shr (W : Wd) (x : Addr) (ps : List Addr) (h : ∀ b, b = x ∨ b ∈ ps → W.F b = none) : Wd := ⟨W.F, fun b => if b = x ∨ b ∈ ps then none else W.H b, fun b o e => by
  show (if b = x ∨ b ∈ ps then none else W.H b) = some o
  rw [if_neg fun k => by rw [h b k] at e; cases e]
  exact W.sub _ _ e, fun b o e st => by
  have e : (if b = x ∨ b ∈ ps then none else W.H b) = some o := e
  by_cases k : b = x ∨ b ∈ ps
  · rw [if_pos k] at e; cases e
  · rw [if_neg k] at e; exact W.tup _ _ e st⟩
theorem call_S {α : Type} {pre : α → Prop} {dom : α → List Dsc} {cod : α → Dsc} {bef aft : α → Deal} (a : α) (hp : pre a) {W W2 : Wd} {x : Addr} {us : List V} (l : Le W W2) (ow : (ownS K W x (bef a)).ok (.ref x) W2) (ad : AllD (dom a) us W2.F) {Q : VK} {E : XK}
    (q : ∀ r U, Le W U → Same W2.F U.F → (ownS K W x (aft a)).ok (.ref x) U → (cod a).ok r U.F → Q r U.H) : spS K pre dom cod bef aft (.ref x :: us) W2.H Q E := by
  obtain ⟨_, h2, h3, dx, vs, fs, ps, h4, h5, h6, h7⟩ := ow
  have hF : ∀ b, b = x ∨ b ∈ ps → W2.F b = none := fun b k => by
    rcases k with k | k
    · rw [k]; exact h3
    · exact (h6.lst k).2.1
  have hW : ∀ b, b = x ∨ b ∈ ps → W.H b = none := fun b k => by
    rcases k with k | k
    · rw [k]; exact h2
    · exact (h6.lst k).1
  have hin : ∀ b, b = x ∨ b ∈ ps → (W2.shr x ps hF).H b = none := fun b k => if_pos k
  have hout : ∀ b, ¬ (b = x ∨ b ∈ ps) → (W2.shr x ps hF).H b = W2.H b := fun b k => if_neg k
  have base_ : ∀ b, (W2.shr x ps hF).H b = none → W.H b = none := fun b e => by
    by_cases k : b = x ∨ b ∈ ps
    · exact hW b k
    · rw [hout b k] at e
      exact l.h.free e
  have back : ∀ b, b ∈ ps → (W2.shr x ps hF).H b = none := fun b k => hin b (.inr k)
  refine ⟨a, W2.shr x ps hF, W2, x, us, rfl, rfl, ⟨fun _ _ e => e, fun b o e => ?_, fun _ _ _ e => e⟩, ⟨rfl, hin x (.inl rfl), h3, dx, vs, fs, ps, h4, h5, ?_, h7⟩, hp, ad, fun r U lu ow2 o => q r U ⟨fun b o e => lu.f _ _ (l.f _ _ e), fun b o e => ?_, fun b o e n => ?_⟩ lu.f ?_ o⟩
  · by_cases k : b = x ∨ b ∈ ps
    · rw [hin b k] at e; cases e
    · rw [hout b k] at e; exact e
  · have key : ∀ {os : List (Str × List Dsc)} {us : List (Str × V)} {qs : List Addr}, (∀ b, b ∈ qs → (W2.shr x ps hF).H b = none) → AllO W W2 os us qs → AllO (W2.shr x ps hF) W2 os us qs := by
      intro os
      induction os with
      | nil => intro us qs _ h; cases us <;> cases qs <;> first | exact h | exact h.elim
      | cons o os ih =>
        intro us qs hq h
        cases us with
        | nil => exact h.elim
        | cons u us => cases qs with
          | nil => exact h.elim
          | cons p qs => exact ⟨⟨h.1.1, h.1.2.1, hq p List.mem_cons_self, h.1.2.2.2⟩, ih (fun b hb => hq b (List.mem_cons_of_mem _ hb)) h.2⟩
    exact key back h6
  · have k : ¬ (b = x ∨ b ∈ ps) := fun k => by rw [hW b k] at e; cases e
    exact lu.h _ _ (by rw [hout b k]; exact l.h _ _ e)
  · have k : ¬ (b = x ∨ b ∈ ps) := fun k => by rw [hW b k] at e; cases e
    exact lu.new b o (by rw [hout b k]; exact l.h _ _ e) (l.new _ _ e n)
  · obtain ⟨g1, g2, g3, dx', vs', us', ps', g4, g5, g6, g7⟩ := ow2
    exact ⟨g1, h2, g3, dx', vs', us', ps', g4, g5, g6.rebase base_, g7⟩
theorem rt_callS {α : Type} {pre : α → Prop} {dom : α → List Dsc} {cod : α → Dsc} {bef aft : α → Deal} {G : En} {W : Wd} {x : Addr} {t : TA} (a : α) (hp : pre a) (hG : G[0]? = some (some (.ow (ownS K W x (bef a))))) (h : EvA t G W (dom a)) :
    Rt (tRet (tCall (spS K pre dom cod bef aft) [] E0 (tCons (tVar 0) t))) G W (rS K W x (cod a) (aft a)) := fun σ W1 l s D q => by
  obtain ⟨v, hv, ow⟩ := s.get hG
  have ev : v = .ref x := ow.1
  subst ev
  refine ⟨_, hv, h σ W1 l s _ fun us W2 l2 ad => ?_⟩
  show spS K pre dom cod bef aft ((V.ref x :: us) ++ []) W2.H _ _
  rw [List.append_nil]
  exact call_S a hp (l.trans l2) ((ownS K W x (bef a)).mono l2 ow) ad fun r U lu _ ok o => q r U lu ⟨o, ok⟩
theorem nx_callS {α : Type} {pre : α → Prop} {dom : α → List Dsc} {cod : α → Dsc} {bef aft : α → Deal} {G : En} {W : Wd} {x : Addr} {t : TA} {i j : Nat} (a : α) (hp : pre a) (hG : G[i]? = some (some (.ow (ownS K W x (bef a))))) (hpl : plainE (G.set i none) = true) (h : EvA t G W (dom a)) :
    Nx (tAsg (tCall (spS K pre dom cod bef aft) [] E0 (tCons (tVar i) t)) (gName j)) G W ((G.set i (some (.ow (ownS K W x (aft a))))).set j (some (.pl (cod a)))) := fun σ W1 l s D q => by
  obtain ⟨v, hv, ow⟩ := s.get hG
  have ev : v = .ref x := ow.1
  subst ev
  refine ⟨_, hv, h σ W1 l s _ fun us W2 l2 ad => ?_⟩
  show spS K pre dom cod bef aft ((V.ref x :: us) ++ []) W2.H _ _
  rw [List.append_nil]
  refine call_S a hp (l.trans l2) ((ownS K W x (bef a)).mono l2 ow) ad fun r U lu sm ok o => ?_
  exact q _ U lu (l2.f.trans sm) ((Sat.put hv (((s.mono l2).forget i).plainUp sm hpl) (t := .ow (ownS K W x (aft a))) ok).set (t := .pl (cod a)) o j)
theorem rt_retS {G : En} {W : Wd} {te : TE} {d : Dsc} {x : Addr} {y : Deal} (hG : G[0]? = some (some (.ow (ownS K W x y)))) (h : Ev te G W d) : Rt (tRet te) G W (rS K W x d y) := fun σ W1 l s D q => by
  obtain ⟨v, hv, ow⟩ := s.get hG
  have ev : v = .ref x := ow.1
  subst ev
  exact h σ W1 l s _ fun r W2 l2 o => q r W2 (l.trans l2) ⟨o, (ownS K W x y).mono l2 ow⟩
theorem nx_asgT {G G1 : En} {W : Wd} {c : TT} {ta tb : TE} {g : TG} (hc : EvT c G W true) (h : Nx (tAsg ta g) G W G1) : Nx (tAsg (tIf c ta tb) g) G W G1 := fun σ W1 l s D q => hc σ W1 l s _ fun W2 l2 => by
  show (if true = true then _ else _)
  rw [if_pos rfl]
  exact h σ W2 (l.trans l2) (s.mono l2) D fun σ' W3 l3 f3 s3 => q σ' W3 l3 (l2.f.trans f3) s3
theorem nx_asgF {G G1 : En} {W : Wd} {c : TT} {ta tb : TE} {g : TG} (hc : EvT c G W false) (h : Nx (tAsg tb g) G W G1) : Nx (tAsg (tIf c ta tb) g) G W G1 := fun σ W1 l s D q => hc σ W1 l s _ fun W2 l2 => by
  show (if false = true then _ else _)
  rw [if_neg Bool.false_ne_true]
  exact h σ W2 (l.trans l2) (s.mono l2) D fun σ' W3 l3 f3 s3 => q σ' W3 l3 (l2.f.trans f3) s3
theorem nx_wk {t : TS} {G G1 G2 : En} {W : Wd} (h : Nx t G W G1) (k : ∀ σ U, Sat G1 σ U → Sat G2 σ U) : Nx t G W G2 := fun σ W1 l s D q => h σ W1 l s D fun σ' W2 l2 f2 s2 => q σ' W2 l2 f2 (k _ _ s2)
/-- Sheet(): nothing said yet -/
def sp_Sheet (K : PySem.W.Frag) : Sp := fun vs H Q _ => ∃ (W0 W : Wd) (x dx : Addr), vs = [.ref x] ∧ W.H = H ∧ Le W0 W ∧ W0.H x = none ∧ W.F x = none ∧ W.H x = some (.ins (He.ga K "Sheet") dx []) ∧ ∀ U, Le W0 U → Same W.F U.F → (ownS K W0 x Vbndao.emptyDeal).ok (.ref x) U → Q .non U.H
/-! Sheet.__init__ -/
def N_Sheet : List Str := ["self"]
theorem sc_Sheet : FnScope ["self"] ["self"] (defScope s_Sheet) := ⟨rfl, rfl, rfl, by decide +kernel, rfl, by decide +kernel, by decide +kernel⟩
theorem nm_Sheet : nmB ["self"] (defScope s_Sheet) [0] [] ["NOT_GIVEN"] = true := by decide +kernel
def t_Sheet (K : PySem.W.Frag) : TS := tSeq (sFld K (tVar 0) (tC (.int (-1))) "trump") (tSeq (sFld K (tVar 0) (tC (.bl false)) "is_ruff") (tSeq (sFld K (tVar 0) (tC (.int (-1))) "trick") (tSeq (sFld K (tVar 0) (tC (.int (-1))) "last") (tSeq (sFld K (tVar 0) (tC (.int (-1))) "lead") (tSeq (sFld K (tVar 0) (tLst (tNil)) "worths") (tSeq (sFld K (tVar 0) (tLst (tNil)) "sides") (sFld K (tVar 0) (tLst (tNil)) "hands")))))))
theorem dv_Sheet {X : Cx} (o0 : On fa X ["self"] (defScope s_Sheet)) (hf : ∀ x, X.fn x = true) : PSs X (defBody s_Sheet) (t_Sheet X.K) := by
  have n0 := nm_Sheet
  exact pss_cons (ps_fld (av o0 n0 0 (gm 0 rfl) rfl) (agi o0 n0 (gm 0 rfl) f_NOT_GIVEN) rfl) (pss_cons (ps_fld (av o0 n0 0 (gm 0 rfl) rfl) (pe_bl) rfl) (pss_cons (ps_fld (av o0 n0 0 (gm 0 rfl) rfl) (agi o0 n0 (gm 0 rfl) f_NOT_GIVEN) rfl) (pss_cons (ps_fld (av o0 n0 0 (gm 0 rfl) rfl) (agi o0 n0 (gm 0 rfl) f_NOT_GIVEN) rfl) (pss_cons (ps_fld (av o0 n0 0 (gm 0 rfl) rfl) (agi o0 n0 (gm 0 rfl) f_NOT_GIVEN) rfl) (pss_cons (ps_fld (av o0 n0 0 (gm 0 rfl) rfl) (pe_lst (pa_nil)) rfl) (pss_cons (ps_fld (av o0 n0 0 (gm 0 rfl) rfl) (pe_lst (pa_nil)) rfl) (pss_one (ps_fld (av o0 n0 0 (gm 0 rfl) rfl) (pe_lst (pa_nil)) rfl))))))))
theorem ev_Sheet (C : Ctx K mg) (W0 : Wd) (x : Addr) : Nx (t_Sheet K) [some (.ow (ownI W0 (He.ga K "Sheet") x []))] W0 [some (.ow (ownS K W0 x Vbndao.emptyDeal))] := by
  refine nx_seq (nx_new (i := 0) [] rfl rfl ev_c (C.cls fc_Sheet) (C.noat fn_Sheet_trump) rfl rfl) ?_
  refine nx_seq (nx_new (i := 0) ["trump"] rfl rfl ev_c (C.cls fc_Sheet) (C.noat fn_Sheet_is_ruff) rfl (by decide +kernel)) ?_
  refine nx_seq (nx_new (i := 0) ["trump", "is_ruff"] rfl rfl ev_c (C.cls fc_Sheet) (C.noat fn_Sheet_trick) rfl (by decide +kernel)) ?_
  refine nx_seq (nx_new (i := 0) ["trump", "is_ruff", "trick"] rfl rfl ev_c (C.cls fc_Sheet) (C.noat fn_Sheet_last) rfl (by decide +kernel)) ?_
  refine nx_seq (G1 := [some (.ow (ownJ W0 (He.ga K "Sheet") x (fS1 Vbndao.emptyDeal) []))]) (nx_wk (nx_new (i := 0) ["trump", "is_ruff", "trick", "last"] rfl rfl ev_c (C.cls fc_Sheet) (C.noat fn_Sheet_lead) rfl (by decide +kernel)) fun σ U s => ?_) ?_
  · match σ, s with
    | [some v], s => exact ⟨ownI_J s.1, trivial⟩
    | [], s => exact s.elim
    | none :: _, s => exact s.elim
    | some _ :: _ :: _, s => exact s.2.elim
  refine nx_seq (nx_newJ (i := 0) (ds := []) rfl rfl (evO_lst ea_nil) (C.cls fc_Sheet) (C.noat fn_Sheet_worths) (by decide +kernel) (by decide +kernel) (by decide)) ?_
  refine nx_seq (nx_newJ (i := 0) (ds := []) rfl rfl (evO_lst ea_nil) (C.cls fc_Sheet) (C.noat fn_Sheet_sides) (by decide +kernel) (by decide +kernel) (by decide)) ?_
  exact nx_to (nx_newJ (i := 0) (ds := []) rfl rfl (evO_lst ea_nil) (C.cls fc_Sheet) (C.noat fn_Sheet_hands) (by decide +kernel) (by decide +kernel) (by decide)) rfl
theorem okM_Sheet (C : Ctx K mg) : OkM P w K mg base 1 "Sheet" ["self"] (sp_Sheet K) :=
  okM_gen C 94 rfl rfl sc_Sheet fg_Sheet fm_Sheet (fun _ _ _ _ _ _ hr o => dv_Sheet o (fun _ => rfl)) (fun _ _ _ _ _ _ us hl => match us, hl with | [_], _ => rfl) (fun vs H Q E h => by
    obtain ⟨W0, W, x, dx, rfl, _⟩ := h
    rfl) fun vs H Q E h => by
    obtain ⟨W0, W, x, dx, rfl, rfl, l, n, hF, hH, q⟩ := h
    refine ev_Sheet C W0 x [some (.ref x)] W l ⟨⟨rfl, n, hF, dx, [], hH, trivial⟩, trivial⟩ _ fun σ' U lu fu su => ?_
    match σ', su with
    | [some v], su =>
      have e : v = .ref x := su.1.1
      subst e
      exact q U lu fu su.1
    | [], su => exact su.elim
    | none :: _, su => exact su.elim
    | some _ :: _ :: _, su => exact su.2.elim
end
end Fd

namespace Fd
open PySem PySem.Spec PyProof.Rows L2
open Vbndao (Deal Position)
section
variable {P : Program} {w : World} {K : PySem.W.Frag} {mg : Str → Option Value} {base : Heap}
/-! ### the lines -/
section
variable {G : En} {W : Wd} {te : TE} {x : Addr} {y : Deal}
theorem keyS {f : Str} (h : f ∈ (["trump", "is_ruff", "trick", "last", "lead"] : List Str)) : f ∈ (fS1 y).map (·.1) := h
theorem keyN {f : Str} (h : f ∉ (["trump", "is_ruff", "trick", "last", "lead"] : List Str)) : f ∉ (fS1 y).map (·.1) := h
theorem nx_trumpS (C : Ctx K mg) {o : Option Nat} (hG : G[0]? = some (some (.ow (ownS K W x y)))) (hp : plainE (G.set 0 none) = true) (h : Ev te G W (dI (optI o))) : Nx (sFld K (tVar 0) te "trump") G W (G.set 0 (some (.ow (ownS K W x { y with trump := o })))) :=
  nx_fldJ (i := 0) hG hp h (C.cls fc_Sheet) (C.noat fn_Sheet_trump) (keyS (by decide +kernel)) (by show 5 + 3 < 1000; decide)
theorem nx_ruffS (C : Ctx K mg) (hG : G[0]? = some (some (.ow (ownS K W x y)))) (hp : plainE (G.set 0 none) = true) (h : Ev te G W (dB true)) : Nx (sFld K (tVar 0) te "is_ruff") G W (G.set 0 (some (.ow (ownS K W x { y with mustRuff := true })))) :=
  nx_fldJ (i := 0) hG hp h (C.cls fc_Sheet) (C.noat fn_Sheet_is_ruff) (keyS (by decide +kernel)) (by show 5 + 3 < 1000; decide)
theorem nx_trickS (C : Ctx K mg) {n : Nat} (hG : G[0]? = some (some (.ow (ownS K W x y)))) (hp : plainE (G.set 0 none) = true) (h : Ev te G W (dN n)) : Nx (sFld K (tVar 0) te "trick") G W (G.set 0 (some (.ow (ownS K W x { y with trickValue := some n })))) :=
  nx_fldJ (i := 0) hG hp h (C.cls fc_Sheet) (C.noat fn_Sheet_trick) (keyS (by decide +kernel)) (by show 5 + 3 < 1000; decide)
theorem nx_lastS (C : Ctx K mg) {n : Nat} (hG : G[0]? = some (some (.ow (ownS K W x y)))) (hp : plainE (G.set 0 none) = true) (h : Ev te G W (dN n)) : Nx (sFld K (tVar 0) te "last") G W (G.set 0 (some (.ow (ownS K W x { y with lastTrickBonus := some n })))) :=
  nx_fldJ (i := 0) hG hp h (C.cls fc_Sheet) (C.noat fn_Sheet_last) (keyS (by decide +kernel)) (by show 5 + 3 < 1000; decide)
theorem nx_leadS (C : Ctx K mg) {n : Nat} (hG : G[0]? = some (some (.ow (ownS K W x y)))) (hp : plainE (G.set 0 none) = true) (h : Ev te G W (dN n)) : Nx (sFld K (tVar 0) te "lead") G W (G.set 0 (some (.ow (ownS K W x { y with firstLeader := some n })))) :=
  nx_fldJ (i := 0) hG hp h (C.cls fc_Sheet) (C.noat fn_Sheet_lead) (keyS (by decide +kernel)) (by show 5 + 3 < 1000; decide)
theorem nx_worthS (C : Ctx K mg) {a b : Nat} (hG : G[0]? = some (some (.ow (ownS K W x y)))) (hp : plainE (G.set 0 none) = true) (h : Ev te G W (dT K [dN a, dN b])) (hl : y.rankValues.length ≤ 100000) : Nx (tDrop (tBM K "list" rAppend (tFld K (tVar 0) "worths") (tCons te tNil))) G W (G.set 0 (some (.ow (ownS K W x { y with rankValues := y.rankValues ++ [(a, b)] })))) := by
  refine nx_to (nx_appJ (i := 0) (ds := y.rankValues.map fun y => dT K [dN y.1, dN y.2]) hG hp h (C.cls fc_Sheet) (C.noat fn_Sheet_worths) (keyN (by decide +kernel)) rfl (by rw [List.length_map]; exact szl hl)) ?_
  have e : appO "worths" (dT K [dN a, dN b]) (oS K y) = oS K { y with rankValues := y.rankValues ++ [(a, b)] } := by
    show appO "worths" _ ([("worths", _), ("sides", _), ("hands", _)] : List (Str × List Dsc)) = ([("worths", (y.rankValues ++ [(a, b)]).map fun y => dT K [dN y.1, dN y.2]), ("sides", _), ("hands", _)] : List (Str × List Dsc))
    unfold appO
    rw [if_pos rfl, List.map_append]
    rfl
  rw [e]
  rfl
theorem nx_handS (C : Ctx K mg) {s : Nat} {l : List Nat} {tf : TE} (hG : G[0]? = some (some (.ow (ownS K W x y)))) (hp : plainE (G.set 0 none) = true) (h : Ev te G W (dN s)) (h2 : ∀ o : Own, Ev tf (G.set 0 (some (.ow o))) W (dNs l)) (hl : y.seats.length ≤ 100000) (h0 : 0 < G.length) : Nx (tSeq (tDrop (tBM K "list" rAppend (tFld K (tVar 0) "sides") (tCons te tNil))) (tDrop (tBM K "list" rAppend (tFld K (tVar 0) "hands") (tCons tf tNil)))) G W (G.set 0 (some (.ow (ownS K W x { y with seats := y.seats ++ [⟨s, l⟩] })))) := by
  refine nx_seq (nx_appJ (i := 0) (ds := (y.seats.map fun s => s.side).map dN) hG hp h (C.cls fc_Sheet) (C.noat fn_Sheet_sides) (keyN (by decide +kernel)) rfl (by rw [List.length_map, List.length_map]; exact szl hl)) ?_
  refine nx_to (nx_appJ (i := 0) (ds := y.seats.map fun s => dNs s.cards) (List.getElem?_set_self h0) (by rw [List.set_set]; exact hp) (h2 _) (C.cls fc_Sheet) (C.noat fn_Sheet_hands) (keyN (by decide +kernel)) rfl (by rw [List.length_map]; exact szl hl)) ?_
  have e : appO "hands" (dNs l) (appO "sides" (dN s) (oS K y)) = oS K { y with seats := y.seats ++ [⟨s, l⟩] } := by
    have n1 : ¬ ("worths" : Str) = "sides" := by decide +kernel
    have n2 : ¬ ("worths" : Str) = "hands" := by decide +kernel
    have n3 : ¬ ("sides" : Str) = "hands" := by decide +kernel
    have e1 : appO "sides" (dN s) (oS K y) = ([("worths", y.rankValues.map fun y => dT K [dN y.1, dN y.2]), ("sides", (y.seats.map fun s => s.side).map dN ++ [dN s]), ("hands", y.seats.map fun s => dNs s.cards)] : List (Str × List Dsc)) := by
      unfold appO
      rw [if_neg n1]
      unfold appO
      rw [if_pos rfl]
    rw [e1]
    unfold appO
    rw [if_neg n2]
    unfold appO
    rw [if_neg n3]
    unfold appO
    rw [if_pos rfl]
    have m1 : ((y.seats.map fun s => s.side).map dN ++ [dN s]) = ((y.seats ++ [(⟨s, l⟩ : Vbndao.Seat)]).map fun s => s.side).map dN := by rw [List.map_append, List.map_append]; rfl
    have m2 : ((y.seats.map fun s => dNs s.cards) ++ [dNs l]) = (y.seats ++ [(⟨s, l⟩ : Vbndao.Seat)]).map fun s => dNs s.cards := by rw [List.map_append]; rfl
    rw [m1, m2]
  rw [List.set_set, e]
  rfl
end
abbrev ALine := Deal × List Tok × Nat
abbrev domL (K : PySem.W.Frag) (a : ALine) : List Dsc := [dWs K a.2.1, dN a.2.2]
def takeTrump (x : Deal) (ws : List Tok) (e : Nat) : (Nat × Nat) × Deal := if suitFault ws e = (0, 0) then (if extraFault ws 2 = (0, 0) then ((0, 0), { x with trump := suitTok (tokAt ws 1).bytes }) else (extraFault ws 2, x)) else (suitFault ws e, x)
def sp_take_trump (K : PySem.W.Frag) : Sp := spS K (fun a : ALine => WsOk a.2.1) (domL K) (fun a => dFt K (takeTrump a.1 a.2.1 a.2.2).1) (fun a => a.1) (fun a => (takeTrump a.1 a.2.1 a.2.2).2)
/-! take_trump -/
def N_take_trump : List Str := ["sheet", "words", "end", "fault"]
theorem sc_take_trump : FnScope ["sheet", "words", "end", "fault"] ["sheet", "words", "end"] (defScope s_take_trump) := ⟨rfl, rfl, rfl, by decide +kernel, rfl, by decide +kernel, by decide +kernel⟩
theorem nm_take_trump : nmB ["sheet", "words", "end", "fault"] (defScope s_take_trump) [1, 2, 3, 0] [3] ["suit_fault", "NO_FAULT", "extra_fault", "suit_in"] = true := by decide +kernel
def t_take_trump (K : PySem.W.Frag) : TS := tSeq (tAsg (tCall (sp_suit_fault K) [] E0 (tCons (tVar 1) (tCons (tVar 2) (tNil)))) (gName 3)) (tSeq (tIfS (tTest (tOp (rEqD K) (tVar 3) (tC (.ref (He.ga K "NO_FAULT"))))) (tAsg (tCall (sp_extra_fault K) [] E0 (tCons (tVar 1) (tCons (tC (.int 2)) (tNil)))) (gName 3)) (tNext)) (tSeq (tIfS (tTest (tOp (rEqD K) (tVar 3) (tC (.ref (He.ga K "NO_FAULT"))))) (sFld K (tVar 0) (tCall (sp_suit_in K) [] E0 (tCons (tOp (rIxT K) (tOp (rIxL K) (tVar 1) (tC (.int 1))) (tC (.int 1))) (tNil))) "trump") (tNext)) (tRet (tVar 3))))
theorem dv_take_trump {X : Cx} (o0 : On fa X ["sheet", "words", "end", "fault"] (defScope s_take_trump)) (hf : ∀ x, X.fn x = true) (c_suit_fault : Cal X "suit_fault" (sp_suit_fault X.K)) (c_extra_fault : Cal X "extra_fault" (sp_extra_fault X.K)) (c_suit_in : Cal X "suit_in" (sp_suit_in X.K)) : PSs X (defBody s_take_trump) (t_take_trump X.K) := by
  have n0 := nm_take_trump
  exact pss_cons (aset o0 n0 hf 3 (acall o0 n0 c_suit_fault (pa_cons (av o0 n0 1 (gm 0 rfl) rfl) (pa_cons (av o0 n0 2 (gm 1 rfl) rfl) (pa_nil))) (gm 0 rfl)) (gm 0 rfl) rfl) (pss_cons (ps_if (pt_cmpR (op_eqD o0.hu) (av o0 n0 3 (gm 2 rfl) rfl) (agr o0 n0 (gm 1 rfl) f_NO_FAULT) (nomark _)) (pss_one (aset o0 n0 hf 3 (acall o0 n0 c_extra_fault (pa_cons (av o0 n0 1 (gm 0 rfl) rfl) (pa_cons (pe_int) (pa_nil))) (gm 2 rfl)) (gm 0 rfl) rfl)) (pss_nil)) (pss_cons (ps_if (pt_cmpR (op_eqD o0.hu) (av o0 n0 3 (gm 2 rfl) rfl) (agr o0 n0 (gm 1 rfl) f_NO_FAULT) (nomark _)) (pss_one (ps_fld (av o0 n0 0 (gm 3 rfl) rfl) (acall o0 n0 c_suit_in (pa_cons (pe_ix ix_tup (pe_ix ix_list (av o0 n0 1 (gm 0 rfl) rfl) (pe_int) (fun _ _ => rfl)) (pe_int) (fun _ _ => rfl)) (pa_nil)) (gm 3 rfl)) rfl)) (pss_nil)) (pss_one (ps_ret (av o0 n0 3 (gm 2 rfl) rfl)))))
theorem suitFault_no {ws : List Tok} {e : Nat} (h : suitFault ws e = (0, 0)) : 2 ≤ ws.length := by
  unfold suitFault at h
  by_cases q : ws.length < 2
  · rw [if_pos q] at h; cases h
  · omega
theorem ev_take_trump (C : Ctx K mg) : ∀ a : ALine, WsOk a.2.1 → ∀ W0 x, Rt (t_take_trump K) (envS ["sheet", "words", "end", "fault"] K W0 x a.1 (domL K a)) W0 (rS K W0 x (dFt K (takeTrump a.1 a.2.1 a.2.2).1) (takeTrump a.1 a.2.1 a.2.2).2) := fun ⟨y, ws, e⟩ h W x => by
  dsimp only at h ⊢
  unfold takeTrump
  refine rt_seq (nx_set (ev_call (ws, e) h (ea_cons ev_var (ea_cons ev_var ea_nil)))) ?_
  have h2 := suitFault_no (ws := ws) (e := e)
  generalize suitFault ws e = f at h2 ⊢
  by_cases q : f = (0, 0)
  · rw [if_pos q]
    have h2 := h2 q
    refine rt_seq (nx_ifT ((et_test (ev_isNo C ev_var)).to (decide_eq_true q)) (nx_set (ev_call (ws, 2) h (ea_cons ev_var (ea_cons ev_c ea_nil))))) ?_
    dsimp only
    by_cases q2 : extraFault ws 2 = (0, 0)
    · rw [if_pos q2]
      refine rt_seq (nx_ifT ((et_test (ev_isNo C (f := extraFault ws 2) ev_var)).to (decide_eq_true q2)) (nx_trumpS C rfl rfl (ev_call (tokAt ws 1).bytes trivial (ea_cons (ev_tokB (i := 1) ev_var ev_c (by omega)) ea_nil)))) ?_
      exact rt_retS rfl (Ev.to (ev_var (d := dFt K (extraFault ws 2))) (by rw [q2]))
    · rw [if_neg q2]
      exact rt_seq (nx_ifF ((et_test (ev_isNo C (f := extraFault ws 2) ev_var)).to (decide_eq_false q2)) nx_skip) (rt_retS rfl ev_var)
  · rw [if_neg q]
    exact rt_seq (nx_ifF ((et_test (ev_isNo C ev_var)).to (decide_eq_false q)) nx_skip) (rt_seq (nx_ifF ((et_test (ev_isNo C ev_var)).to (decide_eq_false q)) nx_skip) (rt_retS rfl ev_var))
theorem ok_take_trump {P : Program} {w : World} {K : PySem.W.Frag} {mg : Str → Option Value} {base : Heap} (C : Ctx K mg) : Ok P w K mg base 3 "take_trump" ["sheet", "words", "end"] (sp_take_trump K) :=
  ok_gen C 61 rfl rfl sc_take_trump fg_take_trump (fun _ _ _ _ _ _ hr o => dv_take_trump o (fun _ => rfl) ((ok_suit_fault C).cal hr (by decide)) ((ok_extra_fault C).cal hr (by decide)) ((ok_suit_in C).cal hr (by decide))) (fun _ _ _ _ _ _ us hl => match us, hl with | [_, _, _], _ => rfl) (len_S fun _ => rfl) fun _ _ _ _ h => reads_S (ev_take_trump C) h
def takeRuff (x : Deal) (ws : List Tok) : (Nat × Nat) × Deal := if extraFault ws 1 = (0, 0) then ((0, 0), { x with mustRuff := true }) else (extraFault ws 1, x)
def sp_take_ruff (K : PySem.W.Frag) : Sp := spS K (fun a : Deal × List Tok => WsOk a.2) (fun a => [dWs K a.2]) (fun a => dFt K (takeRuff a.1 a.2).1) (fun a => a.1) (fun a => (takeRuff a.1 a.2).2)
/-! take_ruff -/
def N_take_ruff : List Str := ["sheet", "words", "fault"]
theorem sc_take_ruff : FnScope ["sheet", "words", "fault"] ["sheet", "words"] (defScope s_take_ruff) := ⟨rfl, rfl, rfl, by decide +kernel, rfl, by decide +kernel, by decide +kernel⟩
theorem nm_take_ruff : nmB ["sheet", "words", "fault"] (defScope s_take_ruff) [1, 2, 0] [2] ["extra_fault", "NO_FAULT"] = true := by decide +kernel
def t_take_ruff (K : PySem.W.Frag) : TS := tSeq (tAsg (tCall (sp_extra_fault K) [] E0 (tCons (tVar 1) (tCons (tC (.int 1)) (tNil)))) (gName 2)) (tSeq (tIfS (tTest (tOp (rEqD K) (tVar 2) (tC (.ref (He.ga K "NO_FAULT"))))) (sFld K (tVar 0) (tC (.bl true)) "is_ruff") (tNext)) (tRet (tVar 2)))
theorem dv_take_ruff {X : Cx} (o0 : On fa X ["sheet", "words", "fault"] (defScope s_take_ruff)) (hf : ∀ x, X.fn x = true) (c_extra_fault : Cal X "extra_fault" (sp_extra_fault X.K)) : PSs X (defBody s_take_ruff) (t_take_ruff X.K) := by
  have n0 := nm_take_ruff
  exact pss_cons (aset o0 n0 hf 2 (acall o0 n0 c_extra_fault (pa_cons (av o0 n0 1 (gm 0 rfl) rfl) (pa_cons (pe_int) (pa_nil))) (gm 0 rfl)) (gm 0 rfl) rfl) (pss_cons (ps_if (pt_cmpR (op_eqD o0.hu) (av o0 n0 2 (gm 1 rfl) rfl) (agr o0 n0 (gm 1 rfl) f_NO_FAULT) (nomark _)) (pss_one (ps_fld (av o0 n0 0 (gm 2 rfl) rfl) (pe_bl) rfl)) (pss_nil)) (pss_one (ps_ret (av o0 n0 2 (gm 1 rfl) rfl))))
theorem ev_take_ruff (C : Ctx K mg) : ∀ a : Deal × List Tok, WsOk a.2 → ∀ W0 x, Rt (t_take_ruff K) (envS ["sheet", "words", "fault"] K W0 x a.1 [dWs K a.2]) W0 (rS K W0 x (dFt K (takeRuff a.1 a.2).1) (takeRuff a.1 a.2).2) := fun ⟨y, ws⟩ h W x => by
  dsimp only at h ⊢
  unfold takeRuff
  refine rt_seq (nx_set (ev_call (ws, 1) h (ea_cons ev_var (ea_cons ev_c ea_nil)))) ?_
  dsimp only
  by_cases q : extraFault ws 1 = (0, 0)
  · rw [if_pos q]
    refine rt_seq (nx_ifT ((et_test (ev_isNo C (f := extraFault ws 1) ev_var)).to (decide_eq_true q)) (nx_ruffS C rfl rfl ev_c)) ?_
    exact rt_retS rfl (Ev.to (ev_var (d := dFt K (extraFault ws 1))) (by rw [q]))
  · rw [if_neg q]
    exact rt_seq (nx_ifF ((et_test (ev_isNo C (f := extraFault ws 1) ev_var)).to (decide_eq_false q)) nx_skip) (rt_retS rfl ev_var)
theorem ok_take_ruff {P : Program} {w : World} {K : PySem.W.Frag} {mg : Str → Option Value} {base : Heap} (C : Ctx K mg) : Ok P w K mg base 2 "take_ruff" ["sheet", "words"] (sp_take_ruff K) :=
  ok_gen C 62 rfl rfl sc_take_ruff fg_take_ruff (fun _ _ _ _ _ _ hr o => dv_take_ruff o (fun _ => rfl) ((ok_extra_fault C).cal hr (by decide))) (fun _ _ _ _ _ _ us hl => match us, hl with | [_, _], _ => rfl) (len_S fun _ => rfl) fun _ _ _ _ h => reads_S (ev_take_ruff C) h
abbrev numAt (ws : List Tok) (i : Nat) : Nat := (Vbndaa.natOfToken 3 (tokAt ws i).bytes).getD 0
def updNum (nm : Str) (x : Deal) (n : Nat) : Deal := if nm = "trick" then { x with trickValue := some n } else if nm = "last" then { x with lastTrickBonus := some n } else { x with firstLeader := some n }
def takeNumber (x : Deal) (nm : Str) (ws : List Tok) (e : Nat) : (Nat × Nat) × Deal := if numLineFault ws e (if nm = "lead" then 3 else 50) = (0, 0) then ((0, 0), updNum nm x (numAt ws 1)) else (numLineFault ws e (if nm = "lead" then 3 else 50), x)
abbrev ANumL := Deal × Str × List Tok × Nat
def sp_take_number (K : PySem.W.Frag) : Sp := spS K (fun a : ANumL => WsOk a.2.2.1) (fun a => [dS a.2.1, dWs K a.2.2.1, dN a.2.2.2]) (fun a => dFt K (takeNumber a.1 a.2.1 a.2.2.1 a.2.2.2).1) (fun a => a.1) (fun a => (takeNumber a.1 a.2.1 a.2.2.1 a.2.2.2).2)
/-! take_number -/
def N_take_number : List Str := ["sheet", "name", "words", "end", "fault", "number"]
theorem sc_take_number : FnScope ["sheet", "name", "words", "end", "fault", "number"] ["sheet", "name", "words", "end"] (defScope s_take_number) := ⟨rfl, rfl, rfl, by decide +kernel, rfl, by decide +kernel, by decide +kernel⟩
theorem nm_take_number : nmB ["sheet", "name", "words", "end", "fault", "number"] (defScope s_take_number) [2, 3, 1, 4, 0, 5] [4, 5] ["MOST_HANDS", "MOST_POINTS_reading", "number_line_fault", "NO_FAULT", "number_in"] = true := by decide +kernel
def t_take_number (K : PySem.W.Frag) : TS := tSeq (tAsg (tCall (sp_number_line_fault K) [] E0 (tCons (tVar 2) (tCons (tVar 3) (tCons (tIf (tTest (tOp rEq (tVar 1) (tC (.str "lead")))) (tOp oSub (tC (.int (4))) (tC (.int 1))) (tC (.int (50)))) (tNil))))) (gName 4)) (tSeq (tIfS (tTest (tOp (rNeD K) (tVar 4) (tC (.ref (He.ga K "NO_FAULT"))))) (tRet (tVar 4)) (tNext)) (tSeq (tAsg (tCall (sp_number_in K) [] E0 (tCons (tOp (rIxT K) (tOp (rIxL K) (tVar 2) (tC (.int 1))) (tC (.int 1))) (tNil))) (gName 5)) (tSeq (tIfS (tTest (tOp rEq (tVar 1) (tC (.str "trick")))) (sFld K (tVar 0) (tVar 5) "trick") (tIfS (tTest (tOp rEq (tVar 1) (tC (.str "last")))) (sFld K (tVar 0) (tVar 5) "last") (sFld K (tVar 0) (tVar 5) "lead"))) (tRet (tC (.ref (He.ga K "NO_FAULT")))))))
theorem dv_take_number {X : Cx} (o0 : On fa X ["sheet", "name", "words", "end", "fault", "number"] (defScope s_take_number)) (hf : ∀ x, X.fn x = true) (c_number_line_fault : Cal X "number_line_fault" (sp_number_line_fault X.K)) (c_number_in : Cal X "number_in" (sp_number_in X.K)) : PSs X (defBody s_take_number) (t_take_number X.K) := by
  have n0 := nm_take_number
  exact pss_cons (aset o0 n0 hf 4 (acall o0 n0 c_number_line_fault (pa_cons (av o0 n0 2 (gm 0 rfl) rfl) (pa_cons (av o0 n0 3 (gm 1 rfl) rfl) (pa_cons (pe_ifExp (pt_cmpR op_eq (av o0 n0 1 (gm 2 rfl) rfl) (pe_str) (nomark _)) (pe_op op_sub (agi o0 n0 (gm 0 rfl) f_MOST_HANDS) (pe_int)) (agi o0 n0 (gm 1 rfl) f_MOST_POINTS_reading)) (pa_nil)))) (gm 2 rfl)) (gm 0 rfl) rfl) (pss_cons (ps_if (pt_cmpR (op_neD o0.hu) (av o0 n0 4 (gm 3 rfl) rfl) (agr o0 n0 (gm 3 rfl) f_NO_FAULT) (nomark _)) (pss_one (ps_ret (av o0 n0 4 (gm 3 rfl) rfl))) (pss_nil)) (pss_cons (aset o0 n0 hf 5 (acall o0 n0 c_number_in (pa_cons (pe_ix ix_tup (pe_ix ix_list (av o0 n0 2 (gm 0 rfl) rfl) (pe_int) (fun _ _ => rfl)) (pe_int) (fun _ _ => rfl)) (pa_nil)) (gm 4 rfl)) (gm 1 rfl) rfl) (pss_cons (ps_if (pt_cmpR op_eq (av o0 n0 1 (gm 2 rfl) rfl) (pe_str) (nomark _)) (pss_one (ps_fld (av o0 n0 0 (gm 4 rfl) rfl) (av o0 n0 5 (gm 5 rfl) rfl) rfl)) (pss_one (ps_if (pt_cmpR op_eq (av o0 n0 1 (gm 2 rfl) rfl) (pe_str) (nomark _)) (pss_one (ps_fld (av o0 n0 0 (gm 4 rfl) rfl) (av o0 n0 5 (gm 5 rfl) rfl) rfl)) (pss_one (ps_fld (av o0 n0 0 (gm 4 rfl) rfl) (av o0 n0 5 (gm 5 rfl) rfl) rfl))))) (pss_one (ps_ret (agr o0 n0 (gm 3 rfl) f_NO_FAULT))))))
theorem num_some {ws : List Tok} {i n : Nat} (h : Vbndaa.natOfToken 3 (tokAt ws i).bytes = some n) : dI (optI (Vbndaa.natOfToken 3 (tokAt ws i).bytes)) = dN (numAt ws i) := by
  show dI (optI (Vbndaa.natOfToken 3 (tokAt ws i).bytes)) = dN ((Vbndaa.natOfToken 3 (tokAt ws i).bytes).getD 0)
  rw [h]
  rfl
theorem numLine_no {ws : List Tok} {e hi : Nat} (h : numLineFault ws e hi = (0, 0)) : numFault ws 1 e 0 hi = (0, 0) ∧ extraFault ws 2 = (0, 0) := by
  unfold numLineFault at h
  by_cases q : numFault ws 1 e 0 hi ≠ (0, 0)
  · rw [if_pos q] at h; exact absurd h q
  · rw [if_neg q] at h; exact ⟨Decidable.not_not.mp q, h⟩
theorem ev_take_number (C : Ctx K mg) : ∀ a : ANumL, WsOk a.2.2.1 → ∀ W0 x, Rt (t_take_number K) (envS ["sheet", "name", "words", "end", "fault", "number"] K W0 x a.1 [dS a.2.1, dWs K a.2.2.1, dN a.2.2.2]) W0 (rS K W0 x (dFt K (takeNumber a.1 a.2.1 a.2.2.1 a.2.2.2).1) (takeNumber a.1 a.2.1 a.2.2.1 a.2.2.2).2) := fun ⟨y, nm, ws, e⟩ h W x => by
  dsimp only at h ⊢
  unfold takeNumber
  refine rt_seq (nx_set (ev_call (ws, e, if nm = "lead" then 3 else 50) h (ea_cons ev_var (ea_cons ev_var (ea_cons (ev_if (et_test (ev_eqT ev_var ev_c)) (fun q => ?_) fun q => ?_) ea_nil))))) ?_
  · exact (ev_I0 ev_c ev_c).to (by rw [if_pos (of_decide_eq_true q)]; rfl)
  · exact ev_c.to (by rw [if_neg (of_decide_eq_false q)]; rfl)
  have h2 := numLine_no (ws := ws) (e := e) (hi := if nm = "lead" then 3 else 50)
  dsimp only
  generalize numLineFault ws e (if nm = "lead" then 3 else 50) = f at h2 ⊢
  by_cases q : f = (0, 0)
  · rw [if_pos q]
    obtain ⟨k1, n, k2, _, _⟩ := numFault_some (h2 q).1
    refine rt_ifR (b := false) ((et_test (ev_neNo C ev_var)).to (by rw [decide_eq_true q]; rfl)) (fun h => nomatch h) fun _ => ?_
    refine rt_seq (nx_set (d := dN (numAt ws 1)) ((ev_call (tokAt ws 1).bytes (ws_at h) (ea_cons (ev_tokB (i := 1) ev_var ev_c k1) ea_nil)).to (num_some k2))) ?_
    unfold updNum
    by_cases e1 : nm = "trick"
    · rw [if_pos e1]
      exact rt_seq (nx_ifT ((et_test (ev_eqT ev_var ev_c)).to (decide_eq_true e1)) (nx_trickS C rfl rfl ev_var)) (rt_retS rfl (ev_no C))
    rw [if_neg e1]
    by_cases e2 : nm = "last"
    · rw [if_pos e2]
      exact rt_seq (nx_ifF ((et_test (ev_eqT ev_var ev_c)).to (decide_eq_false e1)) (nx_ifT ((et_test (ev_eqT ev_var ev_c)).to (decide_eq_true e2)) (nx_lastS C rfl rfl ev_var))) (rt_retS rfl (ev_no C))
    rw [if_neg e2]
    exact rt_seq (nx_ifF ((et_test (ev_eqT ev_var ev_c)).to (decide_eq_false e1)) (nx_ifF ((et_test (ev_eqT ev_var ev_c)).to (decide_eq_false e2)) (nx_leadS C rfl rfl ev_var))) (rt_retS rfl (ev_no C))
  · rw [if_neg q]
    exact rt_ifR (b := true) ((et_test (ev_neNo C ev_var)).to (by rw [decide_eq_false q]; rfl)) (fun _ => rt_retS rfl ev_var) fun h => nomatch h
theorem ok_take_number {P : Program} {w : World} {K : PySem.W.Frag} {mg : Str → Option Value} {base : Heap} (C : Ctx K mg) : Ok P w K mg base 5 "take_number" ["sheet", "name", "words", "end"] (sp_take_number K) :=
  ok_gen C 64 rfl rfl sc_take_number fg_take_number (fun _ _ _ _ _ _ hr o => dv_take_number o (fun _ => rfl) ((ok_number_line_fault C).cal hr (by decide)) ((ok_number_in C).cal hr (by decide))) (fun _ _ _ _ _ _ us hl => match us, hl with | [_, _, _, _], _ => rfl) (len_S fun _ => rfl) fun _ _ _ _ h => reads_S (ev_take_number C) h
def takeWorth (x : Deal) (ws : List Tok) (e : Nat) : (Nat × Nat) × Deal := if rankFault x ws e = (0, 0) then (if numFault ws 2 e 0 50 = (0, 0) then (if extraFault ws 3 = (0, 0) then ((0, 0), { x with rankValues := x.rankValues ++ [(numAt ws 1, numAt ws 2)] }) else (extraFault ws 3, x)) else (numFault ws 2 e 0 50, x)) else (rankFault x ws e, x)
def sp_take_worth (K : PySem.W.Frag) : Sp := spS K (fun a : ALine => WsOk a.2.1 ∧ a.1.rankValues.length ≤ 100000) (domL K) (fun a => dFt K (takeWorth a.1 a.2.1 a.2.2).1) (fun a => a.1) (fun a => (takeWorth a.1 a.2.1 a.2.2).2)
/-! take_worth -/
def N_take_worth : List Str := ["sheet", "words", "end", "fault"]
theorem sc_take_worth : FnScope ["sheet", "words", "end", "fault"] ["sheet", "words", "end"] (defScope s_take_worth) := ⟨rfl, rfl, rfl, by decide +kernel, rfl, by decide +kernel, by decide +kernel⟩
theorem nm_take_worth : nmB ["sheet", "words", "end", "fault"] (defScope s_take_worth) [0, 1, 2, 3] [3] ["rank_fault", "NO_FAULT", "MOST_POINTS_reading", "number_fault", "extra_fault", "number_in"] = true := by decide +kernel
def t_take_worth (K : PySem.W.Frag) : TS := tSeq (tAsg (tCall (sp_rank_fault K) [] E0 (tCons (tVar 0) (tCons (tVar 1) (tCons (tVar 2) (tNil))))) (gName 3)) (tSeq (tIfS (tTest (tOp (rEqD K) (tVar 3) (tC (.ref (He.ga K "NO_FAULT"))))) (tAsg (tCall (sp_number_fault K) [] E0 (tCons (tVar 1) (tCons (tC (.int 2)) (tCons (tVar 2) (tCons (tC (.int 0)) (tCons (tC (.int (50))) (tNil))))))) (gName 3)) (tNext)) (tSeq (tIfS (tTest (tOp (rEqD K) (tVar 3) (tC (.ref (He.ga K "NO_FAULT"))))) (tAsg (tCall (sp_extra_fault K) [] E0 (tCons (tVar 1) (tCons (tC (.int 3)) (tNil)))) (gName 3)) (tNext)) (tSeq (tIfS (tTest (tOp (rEqD K) (tVar 3) (tC (.ref (He.ga K "NO_FAULT"))))) (tDrop (tBM K "list" rAppend (tFld K (tVar 0) "worths") (tCons (tTup (tCons (tCall (sp_number_in K) [] E0 (tCons (tOp (rIxT K) (tOp (rIxL K) (tVar 1) (tC (.int 1))) (tC (.int 1))) (tNil))) (tCons (tCall (sp_number_in K) [] E0 (tCons (tOp (rIxT K) (tOp (rIxL K) (tVar 1) (tC (.int 2))) (tC (.int 1))) (tNil))) (tNil)))) (tNil)))) (tNext)) (tRet (tVar 3)))))
theorem dv_take_worth {X : Cx} (o0 : On fa X ["sheet", "words", "end", "fault"] (defScope s_take_worth)) (hf : ∀ x, X.fn x = true) (c_rank_fault : Cal X "rank_fault" (sp_rank_fault X.K)) (c_number_fault : Cal X "number_fault" (sp_number_fault X.K)) (c_extra_fault : Cal X "extra_fault" (sp_extra_fault X.K)) (c_number_in : Cal X "number_in" (sp_number_in X.K)) : PSs X (defBody s_take_worth) (t_take_worth X.K) := by
  have n0 := nm_take_worth
  exact pss_cons (aset o0 n0 hf 3 (acall o0 n0 c_rank_fault (pa_cons (av o0 n0 0 (gm 0 rfl) rfl) (pa_cons (av o0 n0 1 (gm 1 rfl) rfl) (pa_cons (av o0 n0 2 (gm 2 rfl) rfl) (pa_nil)))) (gm 0 rfl)) (gm 0 rfl) rfl) (pss_cons (ps_if (pt_cmpR (op_eqD o0.hu) (av o0 n0 3 (gm 3 rfl) rfl) (agr o0 n0 (gm 1 rfl) f_NO_FAULT) (nomark _)) (pss_one (aset o0 n0 hf 3 (acall o0 n0 c_number_fault (pa_cons (av o0 n0 1 (gm 1 rfl) rfl) (pa_cons (pe_int) (pa_cons (av o0 n0 2 (gm 2 rfl) rfl) (pa_cons (pe_int) (pa_cons (agi o0 n0 (gm 2 rfl) f_MOST_POINTS_reading) (pa_nil)))))) (gm 3 rfl)) (gm 0 rfl) rfl)) (pss_nil)) (pss_cons (ps_if (pt_cmpR (op_eqD o0.hu) (av o0 n0 3 (gm 3 rfl) rfl) (agr o0 n0 (gm 1 rfl) f_NO_FAULT) (nomark _)) (pss_one (aset o0 n0 hf 3 (acall o0 n0 c_extra_fault (pa_cons (av o0 n0 1 (gm 1 rfl) rfl) (pa_cons (pe_int) (pa_nil))) (gm 4 rfl)) (gm 0 rfl) rfl)) (pss_nil)) (pss_cons (ps_if (pt_cmpR (op_eqD o0.hu) (av o0 n0 3 (gm 3 rfl) rfl) (agr o0 n0 (gm 1 rfl) f_NO_FAULT) (nomark _)) (pss_one (ps_expr (pe_bm PySem.F.plainAttrs_list PySem.F.slot_list_append PySem.F.type_list_append mt_append (pe_fld (av o0 n0 0 (gm 0 rfl) rfl) rfl) (pa_cons (pe_tup (pa_cons (acall o0 n0 c_number_in (pa_cons (pe_ix ix_tup (pe_ix ix_list (av o0 n0 1 (gm 1 rfl) rfl) (pe_int) (fun _ _ => rfl)) (pe_int) (fun _ _ => rfl)) (pa_nil)) (gm 5 rfl)) (pa_cons (acall o0 n0 c_number_in (pa_cons (pe_ix ix_tup (pe_ix ix_list (av o0 n0 1 (gm 1 rfl) rfl) (pe_int) (fun _ _ => rfl)) (pe_int) (fun _ _ => rfl)) (pa_nil)) (gm 5 rfl)) (pa_nil)))) (pa_nil))))) (pss_nil)) (pss_one (ps_ret (av o0 n0 3 (gm 3 rfl) rfl))))))
theorem rank_no {x : Deal} {ws : List Tok} {e : Nat} (h : rankFault x ws e = (0, 0)) : numFault ws 1 e 1 13 = (0, 0) ∧ (x.rankValues.map (·.1)).contains (numAt ws 1) = false := by
  unfold rankFault at h
  by_cases q : numFault ws 1 e 1 13 = (0, 0) ∧ (x.rankValues.map (·.1)).contains ((Vbndaa.natOfToken 3 (tokAt ws 1).bytes).getD 0) = true
  · rw [if_pos q] at h; cases h
  · rw [if_neg q] at h
    refine ⟨h, ?_⟩
    cases k : (x.rankValues.map (·.1)).contains (numAt ws 1) with
    | false => rfl
    | true => exact absurd ⟨h, k⟩ q
theorem ev_take_worth (C : Ctx K mg) : ∀ a : ALine, (WsOk a.2.1 ∧ a.1.rankValues.length ≤ 100000) → ∀ W0 x, Rt (t_take_worth K) (envS ["sheet", "words", "end", "fault"] K W0 x a.1 (domL K a)) W0 (rS K W0 x (dFt K (takeWorth a.1 a.2.1 a.2.2).1) (takeWorth a.1 a.2.1 a.2.2).2) := fun ⟨y, ws, e⟩ ⟨h, hr⟩ W x => by
  dsimp only at h hr ⊢
  unfold takeWorth
  refine rt_seq (nx_set (d := dFt K (rankFault y ws e)) (ev_thaw (i := 0) (o := ownS K W x y) (df := dSheet K y) rfl rfl (fun v U h => ownS_all h) flat_ft fun W' => ev_call (y, ws, e) ⟨h, hr⟩ (ea_cons ev_var (ea_cons ev_var (ea_cons ev_var ea_nil))))) ?_
  have h1 := rank_no (x := y) (ws := ws) (e := e)
  generalize rankFault y ws e = f at h1 ⊢
  by_cases q : f = (0, 0)
  · rw [if_pos q]
    obtain ⟨k1, n1, k2, _, _⟩ := numFault_some (h1 q).1
    refine rt_seq (nx_ifT ((et_test (ev_isNo C ev_var)).to (decide_eq_true q)) (nx_set (d := dFt K (numFault ws 2 e 0 50)) (ev_call (ws, 2, e, 0, 50) h (ea_cons ev_var (ea_cons ev_c (ea_cons ev_var (ea_cons ev_c (ea_cons ev_c ea_nil)))))))) ?_
    have h2 := numFault_some (ws := ws) (i := 2) (e := e) (lo := 0) (hi := 50)
    generalize numFault ws 2 e 0 50 = f2 at h2 ⊢
    by_cases q2 : f2 = (0, 0)
    · rw [if_pos q2]
      obtain ⟨j1, n2, j2, _, _⟩ := h2 q2
      refine rt_seq (nx_ifT ((et_test (ev_isNo C (f := f2) ev_var)).to (decide_eq_true q2)) (nx_set (d := dFt K (extraFault ws 3)) (ev_call (ws, 3) h (ea_cons ev_var (ea_cons ev_c ea_nil))))) ?_
      by_cases q3 : extraFault ws 3 = (0, 0)
      · rw [if_pos q3]
        refine rt_seq (nx_ifT ((et_test (ev_isNo C (f := extraFault ws 3) ev_var)).to (decide_eq_true q3)) (nx_worthS C rfl rfl (ev_tup (ea_cons ((ev_call (tokAt ws 1).bytes (ws_at h) (ea_cons (ev_tokB (i := 1) ev_var ev_c k1) ea_nil)).to (num_some k2)) (ea_cons ((ev_call (tokAt ws 2).bytes (ws_at h) (ea_cons (ev_tokB (i := 2) ev_var ev_c j1) ea_nil)).to (num_some j2)) ea_nil))) hr)) ?_
        exact rt_retS rfl (Ev.to (ev_var (d := dFt K (extraFault ws 3))) (by rw [q3]))
      · rw [if_neg q3]
        exact rt_seq (nx_ifF ((et_test (ev_isNo C (f := extraFault ws 3) ev_var)).to (decide_eq_false q3)) nx_skip) (rt_retS rfl ev_var)
    · rw [if_neg q2]
      exact rt_seq (nx_ifF ((et_test (ev_isNo C (f := f2) ev_var)).to (decide_eq_false q2)) nx_skip) (rt_seq (nx_ifF ((et_test (ev_isNo C (f := f2) ev_var)).to (decide_eq_false q2)) nx_skip) (rt_retS rfl ev_var))
  · rw [if_neg q]
    exact rt_seq (nx_ifF ((et_test (ev_isNo C ev_var)).to (decide_eq_false q)) nx_skip) (rt_seq (nx_ifF ((et_test (ev_isNo C ev_var)).to (decide_eq_false q)) nx_skip) (rt_seq (nx_ifF ((et_test (ev_isNo C ev_var)).to (decide_eq_false q)) nx_skip) (rt_retS rfl ev_var)))
theorem ok_take_worth {P : Program} {w : World} {K : PySem.W.Frag} {mg : Str → Option Value} {base : Heap} (C : Ctx K mg) : Ok P w K mg base 5 "take_worth" ["sheet", "words", "end"] (sp_take_worth K) :=
  ok_gen C 66 rfl rfl sc_take_worth fg_take_worth (fun _ _ _ _ _ _ hr o => dv_take_worth o (fun _ => rfl) ((ok_rank_fault C).cal hr (by decide)) ((ok_number_fault C).cal hr (by decide)) ((ok_extra_fault C).cal hr (by decide)) ((ok_number_in C).cal hr (by decide))) (fun _ _ _ _ _ _ us hl => match us, hl with | [_, _, _], _ => rfl) (len_S fun _ => rfl) fun _ _ _ _ h => reads_S (ev_take_worth C) h
end
end Fd

namespace Fd
open PySem PySem.Spec PyProof.Rows L2
open Vbndao (Deal Position)
section
variable {P : Program} {w : World} {K : PySem.W.Frag} {mg : Str → Option Value} {base : Heap}
/-- what holds of a sheet whose lines so far had no fault -/
structure ParOk (x : Deal) : Prop where
  n4 : x.seats.length ≤ 4
  side : ∀ s ∈ x.seats, s.side ≤ 1
  len : ∀ s ∈ x.seats, s.cards.length = sizeOfDeal x
  pos : x.seats ≠ [] → 1 ≤ sizeOfDeal x
  most : sizeOfDeal x ≤ 4
  card : ∀ c ∈ Vbndao.allCards x, CardOk c
  nd : (Vbndao.allCards x).Nodup
  trump : ∀ k, x.trump = some k → k ≤ 3
  ranks : ∀ y ∈ x.rankValues, 1 ≤ y.1 ∧ y.1 ≤ 13 ∧ y.2 ≤ 50
  ranksNd : (x.rankValues.map (·.1)).Nodup
  nums : (∀ k, x.trickValue = some k → k ≤ 50) ∧ (∀ k, x.lastTrickBonus = some k → k ≤ 50) ∧ (∀ k, x.firstLeader = some k → k ≤ 3)
theorem par_cards {x : Deal} (o : ParOk x) : (Vbndao.allCards x).length ≤ 64 := nodup_lt 64 o.nd fun c hc => by
  have := (o.card c hc).2.2
  omega
theorem par_ranks {x : Deal} (o : ParOk x) : x.rankValues.length ≤ 14 := by
  have := nodup_lt 14 o.ranksNd fun a ha => by
    obtain ⟨y, hy, rfl⟩ := List.mem_map.mp ha
    have := o.ranks y hy
    omega
  rwa [List.length_map] at this
theorem cardTok_ok {l : List Nat} {c : Nat} (h : Vbndao.cardOfToken l = some c) : CardOk c := by
  cases l with
  | nil => cases h
  | cons a r =>
    unfold Vbndao.cardOfToken at h
    dsimp only at h
    by_cases ha : 97 ≤ a ∧ a ≤ 100
    · rw [if_pos ha] at h
      cases hn : Vbndaa.natOfToken 2 r with
      | none => rw [hn] at h; cases h
      | some n =>
        rw [hn] at h
        dsimp only at h
        by_cases hr : 1 ≤ n ∧ n ≤ Vbndao.maxRank
        · rw [if_pos hr] at h
          have hr2 : n ≤ 13 := hr.2
          cases h
          refine ⟨?_, ?_, ?_⟩ <;> omega
        · rw [if_neg hr] at h; cases h
    · rw [if_neg ha] at h; cases h
theorem cards_no : ∀ {ws : List Tok} {i : Nat} {T : List Nat}, cardsFrom i T ws = (0, 0) → i ≤ 4 → (∀ y ∈ ws, ∃ c, Vbndao.cardOfToken y.bytes = some c) ∧ i + ws.length ≤ 4 ∧ (T.Nodup → (T ++ ws.map cardC).Nodup)
  | [], i, T, _, hi => ⟨fun y hy => (by cases hy), hi, fun h => by rw [List.map_nil, List.append_nil]; exact h⟩
  | y :: r, i, T, h, hi => by
    unfold cardsFrom at h
    cases hb : cardBad i T y with
    | some f =>
      rw [hb] at h
      dsimp only at h
      subst h
      unfold cardBad at hb
      by_cases q : i = 4
      · rw [if_pos q] at hb; cases hb
      · rw [if_neg q] at hb
        cases hc : Vbndao.cardOfToken y.bytes with
        | none => rw [hc] at hb; cases hb
        | some c =>
          rw [hc] at hb
          dsimp only at hb
          by_cases k : T.contains c = true
          · rw [if_pos k] at hb; cases hb
          · rw [if_neg k] at hb; cases hb
    | none =>
      rw [hb] at h
      dsimp only at h
      unfold cardBad at hb
      by_cases q : i = 4
      · rw [if_pos q] at hb; cases hb
      rw [if_neg q] at hb
      cases hc : Vbndao.cardOfToken y.bytes with
      | none => rw [hc] at hb; cases hb
      | some c =>
        rw [hc] at hb
        dsimp only at hb
        have k : ¬ T.contains c = true := fun k => by rw [if_pos k] at hb; cases hb
        have ec : cardC y = c := by unfold cardC; rw [hc]; rfl
        obtain ⟨h1, h2, h3⟩ := cards_no h (by omega)
        refine ⟨fun z hz => ?_, by rw [List.length_cons]; omega, fun nd => ?_⟩
        · rcases List.mem_cons.mp hz with e | hz
          · subst e; exact ⟨c, hc⟩
          · exact h1 z hz
        · rw [List.map_cons, show T ++ cardC y :: r.map cardC = (T ++ [cardC y]) ++ r.map cardC by rw [List.append_assoc]; rfl]
          refine h3 ?_
          rw [List.nodup_append]
          refine ⟨nd, List.nodup_cons.mpr ⟨by simp, List.nodup_nil⟩, fun a ha b hb2 => ?_⟩
          rw [List.mem_singleton.mp hb2, ec]
          intro e
          subst e
          exact k (List.contains_iff_mem.mpr ha)
def takeHand (x : Deal) (ws : List Tok) (e : Nat) : (Nat × Nat) × Deal :=
  if numFault ws 1 e 0 1 = (0, 0) then (if ws.length < 3 then ((1, e), x) else if cardsFault x ws = (0, 0) then (if lenFault x ws = (0, 0) then ((0, 0), { x with seats := x.seats ++ [⟨numAt ws 1, (ws.drop 2).map cardC⟩] }) else (lenFault x ws, x)) else (cardsFault x ws, x)) else (numFault ws 1 e 0 1, x)
def sp_take_hand (K : PySem.W.Frag) : Sp := spS K (fun a : ALine => WsOk a.2.1 ∧ ParOk a.1) (domL K) (fun a => dFt K (takeHand a.1 a.2.1 a.2.2).1) (fun a => a.1) (fun a => (takeHand a.1 a.2.1 a.2.2).2)
/-! take_hand -/
def N_take_hand : List Str := ["sheet", "words", "end", "fault", "place", "word"]
theorem sc_take_hand : FnScope ["sheet", "words", "end", "fault", "place", "word"] ["sheet", "words", "end"] (defScope s_take_hand) := ⟨rfl, rfl, rfl, by decide +kernel, rfl, by decide +kernel, by decide +kernel⟩
theorem nm_take_hand : nmB ["sheet", "words", "end", "fault", "place", "word"] (defScope s_take_hand) [1, 2, 3, 0] [3] ["number_fault", "NO_FAULT", "len", "WRONG_WORD", "cards_fault", "length_fault", "number_in"] = true := by decide +kernel
def t_take_hand (K : PySem.W.Frag) : TS := tSeq (tAsg (tCall (sp_number_fault K) [] E0 (tCons (tVar 1) (tCons (tC (.int 1)) (tCons (tVar 2) (tCons (tC (.int 0)) (tCons (tC (.int 1)) (tNil))))))) (gName 3)) (tSeq (tIfS (tAnd (tTest (tOp (rEqD K) (tVar 3) (tC (.ref (He.ga K "NO_FAULT"))))) (tTest (tOp oLt (tCB (cLen K) (tCons (tVar 1) (tNil))) (tC (.int 3))))) (tAsg (tTup (tCons (tC (.int (1))) (tCons (tVar 2) (tNil)))) (gName 3)) (tNext)) (tSeq (tIfS (tTest (tOp (rEqD K) (tVar 3) (tC (.ref (He.ga K "NO_FAULT"))))) (tAsg (tCall (sp_cards_fault K) [] E0 (tCons (tVar 0) (tCons (tVar 1) (tNil)))) (gName 3)) (tNext)) (tSeq (tIfS (tTest (tOp (rEqD K) (tVar 3) (tC (.ref (He.ga K "NO_FAULT"))))) (tAsg (tCall (sp_length_fault K) [] E0 (tCons (tVar 0) (tCons (tVar 1) (tNil)))) (gName 3)) (tNext)) (tSeq (tIfS (tTest (tOp (rEqD K) (tVar 3) (tC (.ref (He.ga K "NO_FAULT"))))) (tSeq (tDrop (tBM K "list" rAppend (tFld K (tVar 0) "sides") (tCons (tCall (sp_number_in K) [] E0 (tCons (tOp (rIxT K) (tOp (rIxL K) (tVar 1) (tC (.int 1))) (tC (.int 1))) (tNil))) (tNil)))) (tDrop (tBM K "list" rAppend (tFld K (tVar 0) "hands") (tCons (tLc (iList K (tSl (rSlL K) (tVar 1) (tPart (tC (.int 2))) (tNoPart))) (gTup K 2 (gCons (gName 4) (gCons (gName 5) (gNil)))) (tYes) (tCall (sp_card_in K) [] E0 (tCons (tVar 5) (tNil))) [4, 5]) (tNil))))) (tNext)) (tRet (tVar 3))))))
theorem dv_take_hand {X : Cx} (o0 : On fa X ["sheet", "words", "end", "fault", "place", "word"] (defScope s_take_hand)) (hf : ∀ x, X.fn x = true) (c_number_fault : Cal X "number_fault" (sp_number_fault X.K)) (c_cards_fault : Cal X "cards_fault" (sp_cards_fault X.K)) (c_length_fault : Cal X "length_fault" (sp_length_fault X.K)) (c_number_in : Cal X "number_in" (sp_number_in X.K)) (c_card_in : Cal X "card_in" (sp_card_in X.K)) : PSs X (defBody s_take_hand) (t_take_hand X.K) := by
  have n0 := nm_take_hand
  exact pss_cons (aset o0 n0 hf 3 (acall o0 n0 c_number_fault (pa_cons (av o0 n0 1 (gm 0 rfl) rfl) (pa_cons (pe_int) (pa_cons (av o0 n0 2 (gm 1 rfl) rfl) (pa_cons (pe_int) (pa_cons (pe_int) (pa_nil)))))) (gm 0 rfl)) (gm 0 rfl) rfl) (pss_cons (ps_if (PW.pt (pw_and (pt_cmpR (op_eqD o0.hu) (av o0 n0 3 (gm 2 rfl) rfl) (agr o0 n0 (gm 1 rfl) f_NO_FAULT) (nomark _)) (pw_and1 (pt_cmpR op_lt (acb o0 n0 call_len_seq (by decide +kernel) (pa_cons (av o0 n0 1 (gm 0 rfl) rfl) (pa_nil)) (gm 2 rfl) f_len) (pe_int) (nomark _))))) (pss_one (aset o0 n0 hf 3 (pe_tup (pa_cons (agi o0 n0 (gm 3 rfl) f_WRONG_WORD) (pa_cons (av o0 n0 2 (gm 1 rfl) rfl) (pa_nil)))) (gm 0 rfl) rfl)) (pss_nil)) (pss_cons (ps_if (pt_cmpR (op_eqD o0.hu) (av o0 n0 3 (gm 2 rfl) rfl) (agr o0 n0 (gm 1 rfl) f_NO_FAULT) (nomark _)) (pss_one (aset o0 n0 hf 3 (acall o0 n0 c_cards_fault (pa_cons (av o0 n0 0 (gm 3 rfl) rfl) (pa_cons (av o0 n0 1 (gm 0 rfl) rfl) (pa_nil))) (gm 4 rfl)) (gm 0 rfl) rfl)) (pss_nil)) (pss_cons (ps_if (pt_cmpR (op_eqD o0.hu) (av o0 n0 3 (gm 2 rfl) rfl) (agr o0 n0 (gm 1 rfl) f_NO_FAULT) (nomark _)) (pss_one (aset o0 n0 hf 3 (acall o0 n0 c_length_fault (pa_cons (av o0 n0 0 (gm 3 rfl) rfl) (pa_cons (av o0 n0 1 (gm 0 rfl) rfl) (pa_nil))) (gm 5 rfl)) (gm 0 rfl) rfl)) (pss_nil)) (pss_cons (ps_if (pt_cmpR (op_eqD o0.hu) (av o0 n0 3 (gm 2 rfl) rfl) (agr o0 n0 (gm 1 rfl) f_NO_FAULT) (nomark _)) (pss_cons (ps_expr (pe_bm PySem.F.plainAttrs_list PySem.F.slot_list_append PySem.F.type_list_append mt_append (pe_fld (av o0 n0 0 (gm 3 rfl) rfl) rfl) (pa_cons (acall o0 n0 c_number_in (pa_cons (pe_ix ix_tup (pe_ix ix_list (av o0 n0 1 (gm 0 rfl) rfl) (pe_int) (fun _ _ => rfl)) (pe_int) (fun _ _ => rfl)) (pa_nil)) (gm 6 rfl)) (pa_nil)))) (pss_one (ps_expr (pe_bm PySem.F.plainAttrs_list PySem.F.slot_list_append PySem.F.type_list_append mt_append (pe_fld (av o0 n0 0 (gm 3 rfl) rfl) rfl) (pa_cons (pe_lc (own := [("place", 4), ("word", 5)]) o0.calm o0.nd (pi_list (pe_slice sl_list (av o0 n0 1 (gm 0 rfl) rfl) (po_some (pe_int)) (po_none))) (o0.ok (own := [("place", 4), ("word", 5)]) (by decide +kernel)) (fun s1 H1 C1 l1 p1 => let o1 := o0.blk s1 H1 _ C1 l1 p1; pg_tup o1.calm (pgs_cons (agb o1 4 rfl (by decide +kernel)) (pgs_cons (agb o1 5 rfl (by decide +kernel)) (pgs_nil)))) (fun _ _ _ _ _ => pts_nil) (fun s1 H1 C1 l1 p1 => (fun (n1 : nmB _ (relS _ _) [5] [] ["card_in"] = true) => let o1 := o0.blk s1 H1 _ C1 l1 p1; acall o1 n1 c_card_in.blk (pa_cons (av o1 n1 5 (gm 0 rfl) rfl) (pa_nil)) (gm 0 rfl)) (by decide +kernel))) (pa_nil)))))) (pss_nil)) (pss_one (ps_ret (av o0 n0 3 (gm 2 rfl) rfl)))))))
theorem ev_take_hand (C : Ctx K mg) : ∀ a : ALine, (WsOk a.2.1 ∧ ParOk a.1) → ∀ W0 x, Rt (t_take_hand K) (envS ["sheet", "words", "end", "fault", "place", "word"] K W0 x a.1 (domL K a)) W0 (rS K W0 x (dFt K (takeHand a.1 a.2.1 a.2.2).1) (takeHand a.1 a.2.1 a.2.2).2) := fun ⟨y, ws, e⟩ ⟨h, o⟩ W x => by
  dsimp only at h o ⊢
  have hc := par_cards o
  unfold takeHand
  refine rt_seq (nx_set (d := dFt K (numFault ws 1 e 0 1)) (ev_call (ws, 1, e, 0, 1) h (ea_cons ev_var (ea_cons ev_c (ea_cons ev_var (ea_cons ev_c (ea_cons ev_c ea_nil))))))) ?_
  have h1 := numFault_some (ws := ws) (i := 1) (e := e) (lo := 0) (hi := 1)
  generalize numFault ws 1 e 0 1 = f at h1 ⊢
  have bad : ∀ {f : Nat × Nat} {G : En}, f ≠ (0, 0) → G[3]? = some (some (.pl (dFt K f))) → EvT (tTest (tOp (rEqD K) (tVar 3) (tC (.ref (He.ga K "NO_FAULT"))))) G W false := fun q g => (et_test (ev_isNo C (ev_var g))).to (decide_eq_false q)
  have good : ∀ {f : Nat × Nat} {G : En}, f = (0, 0) → G[3]? = some (some (.pl (dFt K f))) → EvT (tTest (tOp (rEqD K) (tVar 3) (tC (.ref (He.ga K "NO_FAULT"))))) G W true := fun q g => (et_test (ev_isNo C (ev_var g))).to (decide_eq_true q)
  by_cases q : f = (0, 0)
  · rw [if_pos q]
    obtain ⟨k1, n1, k2, _, _⟩ := h1 q
    by_cases q2 : ws.length < 3
    · rw [if_pos q2]
      refine rt_seq (nx_ifT ((et_and (good q rfl) fun _ => (et_test (ev_I0 (ev_lenM ev_var) ev_c)).to (decide_eq_true (by show ((ws.length : Nat) : Int) < 3; omega))).to rfl) (nx_set (d := dFt K (1, e)) (ev_ft (a := 1) ev_c ev_var))) ?_
      exact rt_seq (nx_ifF (bad (f := (1, e)) (by simp) rfl) nx_skip) (rt_seq (nx_ifF (bad (f := (1, e)) (by simp) rfl) nx_skip) (rt_seq (nx_ifF (bad (f := (1, e)) (by simp) rfl) nx_skip) (rt_retS rfl ev_var)))
    rw [if_neg q2]
    refine rt_seq (nx_ifF ((et_and (good q rfl) fun _ => (et_test (ev_I0 (ev_lenM ev_var) ev_c)).to (decide_eq_false (by show ¬ ((ws.length : Nat) : Int) < 3; omega))).to rfl) nx_skip) ?_
    refine rt_seq (nx_ifT (good q rfl) (nx_set (d := dFt K (cardsFault y ws)) (ev_thaw (i := 0) (o := ownS K W x y) (df := dSheet K y) rfl rfl (fun v U h => ownS_all h) flat_ft fun W' => ev_call (y, ws) ⟨h, by show (Vbndao.allCards y).length ≤ 100000; omega⟩ (ea_cons ev_var (ea_cons ev_var ea_nil))))) ?_
    have h3 := cards_no (ws := ws.drop 2) (i := 0) (T := Vbndao.allCards y)
    have h3 : cardsFault y ws = (0, 0) → _ := fun z => h3 z (Nat.zero_le _)
    generalize cardsFault y ws = f2 at h3 ⊢
    by_cases q3 : f2 = (0, 0)
    · rw [if_pos q3]
      obtain ⟨c1, c2, _⟩ := h3 q3
      refine rt_seq (nx_ifT (good q3 rfl) (nx_set (d := dFt K (lenFault y ws)) (ev_thaw (i := 0) (o := ownS K W x y) (df := dSheet K y) rfl rfl (fun v U h => ownS_all h) flat_ft fun W' => ev_call (y, ws) (by show 2 ≤ ws.length; omega) (ea_cons ev_var (ea_cons ev_var ea_nil))))) ?_
      by_cases q4 : lenFault y ws = (0, 0)
      · rw [if_pos q4]
        refine rt_seq (nx_ifT (good q4 rfl) (nx_handS C (s := numAt ws 1) (l := (ws.drop 2).map cardC) rfl rfl ((ev_call (tokAt ws 1).bytes (ws_at h) (ea_cons (ev_tokB (i := 1) ev_var ev_c k1) ea_nil)).to (num_some k2)) (fun o' => Ev.to (EvO.ev (evO_lcm (ws.drop 2) (dTok K) (fun z => dN (cardC z)) (fun z G => (G.set 4 (some (.pl (dN z.offset)))).set 5 (some (.pl (dNs z.bytes)))) [4, 5] (ei_list (Ev.to (EvO.ev (evO_slL (lo := some ((2 : Nat) : Int)) (hi := none) ev_var (evp_some ev_c) evp_no)) (by rw [cut_from]))) (fun _ _ => tg_tup (n := 2) (tgs_cons tg_name (tgs_cons tg_name tgs_nil)))
          (fun z hz => (ev_call z.bytes (h.2 z (List.mem_of_mem_drop hz)) (ea_cons ev_var ea_nil)).to ?_) (fun j h => h) (szl (by rw [List.length_drop]; have := h.1; omega)))) dL_mm.symm) (by have := o.n4; omega) (by show 0 < 6; decide))) ?_
        · obtain ⟨c, hcc⟩ := c1 z hz
          unfold cardC
          rw [hcc]
          rfl
        · exact rt_retS rfl (Ev.to (ev_var (d := dFt K (lenFault y ws))) (by rw [q4]))
      · rw [if_neg q4]
        exact rt_seq (nx_ifF (bad q4 rfl) nx_skip) (rt_retS rfl ev_var)
    · rw [if_neg q3]
      exact rt_seq (nx_ifF (bad q3 rfl) nx_skip) (rt_seq (nx_ifF (bad q3 rfl) nx_skip) (rt_retS rfl ev_var))
  · rw [if_neg q]
    refine rt_seq (nx_ifF ((et_and (c := true) (bad q rfl) fun h => nomatch h).to rfl) nx_skip) ?_
    exact rt_seq (nx_ifF (bad q rfl) nx_skip) (rt_seq (nx_ifF (bad q rfl) nx_skip) (rt_seq (nx_ifF (bad q rfl) nx_skip) (rt_retS rfl ev_var)))
theorem ok_take_hand {P : Program} {w : World} {K : PySem.W.Frag} {mg : Str → Option Value} {base : Heap} (C : Ctx K mg) : Ok P w K mg base 5 "take_hand" ["sheet", "words", "end"] (sp_take_hand K) :=
  ok_gen C 68 rfl rfl sc_take_hand fg_take_hand (fun _ _ _ _ _ _ hr o => dv_take_hand o (fun _ => rfl) ((ok_number_fault C).cal hr (by decide)) ((ok_cards_fault C).cal hr (by decide)) ((ok_length_fault C).cal hr (by decide)) ((ok_number_in C).cal hr (by decide)) ((ok_card_in C).cal hr (by decide))) (fun _ _ _ _ _ _ us hl => match us, hl with | [_, _, _], _ => rfl) (len_S fun _ => rfl) fun _ _ _ _ h => reads_S (ev_take_hand C) h
def takeLine (x : Deal) (ws : List Tok) (e : Nat) : (Nat × Nat) × Deal :=
  if nameOf (tokAt ws 0).bytes = "" then ((1, (tokAt ws 0).offset), x) else if givenB x (nameOf (tokAt ws 0).bytes) = true then ((4, (tokAt ws 0).offset), x) else if nameOf (tokAt ws 0).bytes = "hand" ∧ x.seats.length = 4 then ((7, (tokAt ws 0).offset), x)
  else if nameOf (tokAt ws 0).bytes = "trump" then takeTrump x ws e else if nameOf (tokAt ws 0).bytes = "ruff" then takeRuff x ws else if nameOf (tokAt ws 0).bytes = "worth" then takeWorth x ws e else if nameOf (tokAt ws 0).bytes = "hand" then takeHand x ws e else takeNumber x (nameOf (tokAt ws 0).bytes) ws e
def sp_take_line (K : PySem.W.Frag) : Sp := spS K (fun a : ALine => WsOk a.2.1 ∧ ParOk a.1 ∧ a.2.1 ≠ []) (domL K) (fun a => dFt K (takeLine a.1 a.2.1 a.2.2).1) (fun a => a.1) (fun a => (takeLine a.1 a.2.1 a.2.2).2)
/-! take_line -/
def N_take_line : List Str := ["sheet", "words", "end", "place", "first", "name"]
theorem sc_take_line : FnScope ["sheet", "words", "end", "place", "first", "name"] ["sheet", "words", "end"] (defScope s_take_line) := ⟨rfl, rfl, rfl, by decide +kernel, rfl, by decide +kernel, by decide +kernel⟩
theorem nm_take_line : nmB ["sheet", "words", "end", "place", "first", "name"] (defScope s_take_line) [1, 4, 5, 3, 0, 2] [3, 4, 5] ["name_in", "WRONG_WORD", "is_given", "TWICE", "len", "MOST_HANDS", "TOO_MANY", "take_trump", "take_ruff", "take_worth", "take_hand", "take_number"] = true := by decide +kernel
def t_take_line (K : PySem.W.Frag) : TS := tSeq (tAsg (tOp (rIxL K) (tVar 1) (tC (.int 0))) (gTup K 2 (gCons (gName 3) (gCons (gName 4) (gNil))))) (tSeq (tAsg (tCall (sp_name_in K) [] E0 (tCons (tVar 4) (tNil))) (gName 5)) (tSeq (tIfS (tTest (tOp rEq (tVar 5) (tC (.str "")))) (tRet (tTup (tCons (tC (.int (1))) (tCons (tVar 3) (tNil))))) (tNext)) (tSeq (tIfS (tB (tCall (sp_is_given K) [] E0 (tCons (tVar 0) (tCons (tVar 5) (tNil))))) (tRet (tTup (tCons (tC (.int (4))) (tCons (tVar 3) (tNil))))) (tNext)) (tSeq (tIfS (tAnd (tTest (tOp rEq (tVar 5) (tC (.str "hand")))) (tTest (tOp rEq (tCB (cLen K) (tCons (tFld K (tVar 0) "hands") (tNil))) (tC (.int (4)))))) (tRet (tTup (tCons (tC (.int (7))) (tCons (tVar 3) (tNil))))) (tNext)) (tSeq (tIfS (tTest (tOp rEq (tVar 5) (tC (.str "trump")))) (tRet (tCall (sp_take_trump K) [] E0 (tCons (tVar 0) (tCons (tVar 1) (tCons (tVar 2) (tNil)))))) (tNext)) (tSeq (tIfS (tTest (tOp rEq (tVar 5) (tC (.str "ruff")))) (tRet (tCall (sp_take_ruff K) [] E0 (tCons (tVar 0) (tCons (tVar 1) (tNil))))) (tNext)) (tSeq (tIfS (tTest (tOp rEq (tVar 5) (tC (.str "worth")))) (tRet (tCall (sp_take_worth K) [] E0 (tCons (tVar 0) (tCons (tVar 1) (tCons (tVar 2) (tNil)))))) (tNext)) (tSeq (tIfS (tTest (tOp rEq (tVar 5) (tC (.str "hand")))) (tRet (tCall (sp_take_hand K) [] E0 (tCons (tVar 0) (tCons (tVar 1) (tCons (tVar 2) (tNil)))))) (tNext)) (tRet (tCall (sp_take_number K) [] E0 (tCons (tVar 0) (tCons (tVar 5) (tCons (tVar 1) (tCons (tVar 2) (tNil)))))))))))))))
theorem dv_take_line {X : Cx} (o0 : On fa X ["sheet", "words", "end", "place", "first", "name"] (defScope s_take_line)) (hf : ∀ x, X.fn x = true) (c_name_in : Cal X "name_in" (sp_name_in X.K)) (c_is_given : Cal X "is_given" (sp_is_given X.K)) (c_take_trump : Cal X "take_trump" (sp_take_trump X.K)) (c_take_ruff : Cal X "take_ruff" (sp_take_ruff X.K)) (c_take_worth : Cal X "take_worth" (sp_take_worth X.K)) (c_take_hand : Cal X "take_hand" (sp_take_hand X.K)) (c_take_number : Cal X "take_number" (sp_take_number X.K)) : PSs X (defBody s_take_line) (t_take_line X.K) := by
  have n0 := nm_take_line
  exact pss_cons (ps_asg (pe_ix ix_list (av o0 n0 1 (gm 0 rfl) rfl) (pe_int) (fun _ _ => rfl)) (pg_tup o0.calm (pgs_cons (ag o0 n0 hf 3 (gm 0 rfl) rfl) (pgs_cons (ag o0 n0 hf 4 (gm 1 rfl) rfl) (pgs_nil))))) (pss_cons (aset o0 n0 hf 5 (acall o0 n0 c_name_in (pa_cons (av o0 n0 4 (gm 1 rfl) rfl) (pa_nil)) (gm 0 rfl)) (gm 2 rfl) rfl) (pss_cons (ps_if (pt_cmpR op_eq (av o0 n0 5 (gm 2 rfl) rfl) (pe_str) (nomark _)) (pss_one (ps_ret (pe_tup (pa_cons (agi o0 n0 (gm 1 rfl) f_WRONG_WORD) (pa_cons (av o0 n0 3 (gm 3 rfl) rfl) (pa_nil)))))) (pss_nil)) (pss_cons (ps_if (pt_val (acall o0 n0 c_is_given (pa_cons (av o0 n0 0 (gm 4 rfl) rfl) (pa_cons (av o0 n0 5 (gm 2 rfl) rfl) (pa_nil))) (gm 2 rfl))) (pss_one (ps_ret (pe_tup (pa_cons (agi o0 n0 (gm 3 rfl) f_TWICE) (pa_cons (av o0 n0 3 (gm 3 rfl) rfl) (pa_nil)))))) (pss_nil)) (pss_cons (ps_if (PW.pt (pw_and (pt_cmpR op_eq (av o0 n0 5 (gm 2 rfl) rfl) (pe_str) (nomark _)) (pw_and1 (pt_cmpR op_eq (acb o0 n0 call_len_seq (by decide +kernel) (pa_cons (pe_fld (av o0 n0 0 (gm 4 rfl) rfl) rfl) (pa_nil)) (gm 4 rfl) f_len) (agi o0 n0 (gm 5 rfl) f_MOST_HANDS) (nomark _))))) (pss_one (ps_ret (pe_tup (pa_cons (agi o0 n0 (gm 6 rfl) f_TOO_MANY) (pa_cons (av o0 n0 3 (gm 3 rfl) rfl) (pa_nil)))))) (pss_nil)) (pss_cons (ps_if (pt_cmpR op_eq (av o0 n0 5 (gm 2 rfl) rfl) (pe_str) (nomark _)) (pss_one (ps_ret (acall o0 n0 c_take_trump (pa_cons (av o0 n0 0 (gm 4 rfl) rfl) (pa_cons (av o0 n0 1 (gm 0 rfl) rfl) (pa_cons (av o0 n0 2 (gm 5 rfl) rfl) (pa_nil)))) (gm 7 rfl)))) (pss_nil)) (pss_cons (ps_if (pt_cmpR op_eq (av o0 n0 5 (gm 2 rfl) rfl) (pe_str) (nomark _)) (pss_one (ps_ret (acall o0 n0 c_take_ruff (pa_cons (av o0 n0 0 (gm 4 rfl) rfl) (pa_cons (av o0 n0 1 (gm 0 rfl) rfl) (pa_nil))) (gm 8 rfl)))) (pss_nil)) (pss_cons (ps_if (pt_cmpR op_eq (av o0 n0 5 (gm 2 rfl) rfl) (pe_str) (nomark _)) (pss_one (ps_ret (acall o0 n0 c_take_worth (pa_cons (av o0 n0 0 (gm 4 rfl) rfl) (pa_cons (av o0 n0 1 (gm 0 rfl) rfl) (pa_cons (av o0 n0 2 (gm 5 rfl) rfl) (pa_nil)))) (gm 9 rfl)))) (pss_nil)) (pss_cons (ps_if (pt_cmpR op_eq (av o0 n0 5 (gm 2 rfl) rfl) (pe_str) (nomark _)) (pss_one (ps_ret (acall o0 n0 c_take_hand (pa_cons (av o0 n0 0 (gm 4 rfl) rfl) (pa_cons (av o0 n0 1 (gm 0 rfl) rfl) (pa_cons (av o0 n0 2 (gm 5 rfl) rfl) (pa_nil)))) (gm 10 rfl)))) (pss_nil)) (pss_one (ps_ret (acall o0 n0 c_take_number (pa_cons (av o0 n0 0 (gm 4 rfl) rfl) (pa_cons (av o0 n0 5 (gm 2 rfl) rfl) (pa_cons (av o0 n0 1 (gm 0 rfl) rfl) (pa_cons (av o0 n0 2 (gm 5 rfl) rfl) (pa_nil))))) (gm 11 rfl))))))))))))
theorem ev_take_line (C : Ctx K mg) : ∀ a : ALine, (WsOk a.2.1 ∧ ParOk a.1 ∧ a.2.1 ≠ []) → ∀ W0 x, Rt (t_take_line K) (envS ["sheet", "words", "end", "place", "first", "name"] K W0 x a.1 (domL K a)) W0 (rS K W0 x (dFt K (takeLine a.1 a.2.1 a.2.2).1) (takeLine a.1 a.2.1 a.2.2).2) := fun ⟨y, ws, e⟩ ⟨h, o, hne⟩ W x => by
  dsimp only at h o hne ⊢
  have hl : 0 < ws.length := List.length_pos_iff.mpr hne
  unfold takeLine
  refine rt_seq (nx_asg (f := fun G => (G.set 3 (some (.pl (dN (tokAt ws 0).offset)))).set 4 (some (.pl (dNs (tokAt ws 0).bytes)))) (js := [3, 4]) (ev_ixL (j := 0) ev_var ev_c (toks_at hl)) (tg_tup (n := 2) (tgs_cons tg_name (tgs_cons tg_name tgs_nil)))) ?_
  refine rt_seq (nx_set (ev_call (tokAt ws 0).bytes (ws_at h) (ea_cons ev_var ea_nil))) ?_
  generalize nameOf (tokAt ws 0).bytes = nm
  refine rt_ifR (et_test (ev_eqT ev_var ev_c)) (fun q => ?_) fun q => ?_
  · rw [if_pos (of_decide_eq_true q)]
    exact rt_retS rfl (ev_ft (a := 1) ev_c ev_var)
  rw [if_neg (of_decide_eq_false q)]
  refine rt_ifR (b := givenB y nm) (et_B (ev_thaw (i := 0) (o := ownS K W x y) (df := dSheet K y) rfl rfl (fun v U h => ownS_all h) flat_V fun W' => ev_call (y, nm) trivial (ea_cons ev_var (ea_cons ev_var ea_nil)))) (fun q => ?_) fun q => ?_
  · rw [if_pos q]
    exact rt_retS rfl (ev_ft (a := 4) ev_c ev_var)
  rw [if_neg (by rw [q]; decide)]
  refine rt_ifR (b := decide (nm = "hand") && decide (y.seats.length = 4)) (et_and (et_test (ev_eqT ev_var ev_c)) fun _ => et_test (ev_thaw (i := 0) (o := ownS K W x y) (df := dSheet K y) rfl rfl (fun v U h => ownS_all h) flat_V fun W' => (ev_eqI (ev_lenM (evs C ev_var fn_Sheet_hands rfl)) ev_c).to (congrArg dB (decide_eq_decide.mpr (by omega))))) (fun q => ?_) fun q => ?_
  · rw [Bool.and_eq_true, decide_eq_true_eq, decide_eq_true_eq] at q
    rw [if_pos q]
    exact rt_retS rfl (ev_ft (a := 7) ev_c ev_var)
  rw [if_neg (by rw [← Bool.not_eq_true, Bool.and_eq_true, decide_eq_true_eq, decide_eq_true_eq] at q; exact q)]
  refine rt_ifR (et_test (ev_eqT ev_var ev_c)) (fun q => ?_) fun q => ?_
  · rw [if_pos (of_decide_eq_true q)]
    exact rt_callS (y, ws, e) h rfl (ea_cons ev_var (ea_cons ev_var ea_nil))
  rw [if_neg (of_decide_eq_false q)]
  refine rt_ifR (et_test (ev_eqT ev_var ev_c)) (fun q => ?_) fun q => ?_
  · rw [if_pos (of_decide_eq_true q)]
    exact rt_callS (y, ws) h rfl (ea_cons ev_var ea_nil)
  rw [if_neg (of_decide_eq_false q)]
  refine rt_ifR (et_test (ev_eqT ev_var ev_c)) (fun q => ?_) fun q => ?_
  · rw [if_pos (of_decide_eq_true q)]
    exact rt_callS (y, ws, e) ⟨h, by have := par_ranks o; show y.rankValues.length ≤ 100000; omega⟩ rfl (ea_cons ev_var (ea_cons ev_var ea_nil))
  rw [if_neg (of_decide_eq_false q)]
  refine rt_ifR (et_test (ev_eqT ev_var ev_c)) (fun q => ?_) fun q => ?_
  · rw [if_pos (of_decide_eq_true q)]
    exact rt_callS (y, ws, e) ⟨h, o⟩ rfl (ea_cons ev_var (ea_cons ev_var ea_nil))
  rw [if_neg (of_decide_eq_false q)]
  exact rt_callS (y, nm, ws, e) h rfl (ea_cons ev_var (ea_cons ev_var (ea_cons ev_var ea_nil)))
theorem ok_take_line {P : Program} {w : World} {K : PySem.W.Frag} {mg : Str → Option Value} {base : Heap} (C : Ctx K mg) : Ok P w K mg base 6 "take_line" ["sheet", "words", "end"] (sp_take_line K) :=
  ok_gen C 69 rfl rfl sc_take_line fg_take_line (fun _ _ _ _ _ _ hr o => dv_take_line o (fun _ => rfl) ((ok_name_in C).cal hr (by decide)) ((ok_is_given C).cal hr (by decide)) ((ok_take_trump C).cal hr (by decide)) ((ok_take_ruff C).cal hr (by decide)) ((ok_take_worth C).cal hr (by decide)) ((ok_take_hand C).cal hr (by decide)) ((ok_take_number C).cal hr (by decide))) (fun _ _ _ _ _ _ us hl => match us, hl with | [_, _, _], _ => rfl) (len_S fun _ => rfl) fun _ _ _ _ h => reads_S (ev_take_line C) h
end
end Fd

namespace Fd
open PySem PySem.Spec PyProof.Rows L2
open Vbndao (Deal Position)
section
variable {P : Program} {w : World} {K : PySem.W.Frag} {mg : Str → Option Value} {base : Heap}
/-! ### what a line does, plain -/
theorem suitTok_ok {l : List Nat} {k : Nat} (h : suitTok l = some k) : k ≤ 3 := by
  unfold suitTok at h
  split at h
  · rename_i c
    by_cases q : 97 ≤ c ∧ c ≤ 100
    · rw [if_pos q] at h; cases h; omega
    · rw [if_neg q] at h; cases h
  · cases h
theorem par_trump {x : Deal} (o : ParOk x) {t : Option Nat} (h : ∀ k, t = some k → k ≤ 3) : ParOk { x with trump := t } := ⟨o.n4, o.side, o.len, o.pos, o.most, o.card, o.nd, h, o.ranks, o.ranksNd, o.nums⟩
theorem par_ruff {x : Deal} (o : ParOk x) : ParOk { x with mustRuff := true } := ⟨o.n4, o.side, o.len, o.pos, o.most, o.card, o.nd, o.trump, o.ranks, o.ranksNd, o.nums⟩
theorem take_trump_par {x : Deal} {ws : List Tok} {e : Nat} (o : ParOk x) : ParOk (takeTrump x ws e).2 := by
  unfold takeTrump
  split
  · split
    · exact par_trump o fun k h => suitTok_ok h
    · exact o
  · exact o
theorem take_ruff_par {x : Deal} {ws : List Tok} (o : ParOk x) : ParOk (takeRuff x ws).2 := by
  unfold takeRuff
  split
  · exact par_ruff o
  · exact o
theorem num_le {ws : List Tok} {i e lo hi : Nat} (h : numFault ws i e lo hi = (0, 0)) : lo ≤ numAt ws i ∧ numAt ws i ≤ hi := by
  obtain ⟨_, n, h1, h2, h3⟩ := numFault_some h
  have e : numAt ws i = n := by show (Vbndaa.natOfToken 3 (tokAt ws i).bytes).getD 0 = n; rw [h1]; rfl
  rw [e]
  exact ⟨h2, h3⟩
theorem take_number_par {x : Deal} {nm : Str} {ws : List Tok} {e : Nat} (o : ParOk x) (hn : nm = "trick" ∨ nm = "last" ∨ nm = "lead") : ParOk (takeNumber x nm ws e).2 := by
  unfold takeNumber
  have t1 : ¬ ("trick" : Str) = "lead" := by decide +kernel
  have t2 : ¬ ("last" : Str) = "lead" := by decide +kernel
  have t3 : ¬ ("last" : Str) = "trick" := by decide +kernel
  have t4 : ¬ ("lead" : Str) = "trick" := by decide +kernel
  have t5 : ¬ ("lead" : Str) = "last" := by decide +kernel
  by_cases h : numLineFault ws e (if nm = "lead" then 3 else 50) = (0, 0)
  · rw [if_pos h]
    have hb := (num_le (numLine_no h).1).2
    unfold updNum
    rcases hn with hn | hn | hn
    · subst hn
      rw [if_neg t1] at hb
      rw [if_pos rfl]
      exact ⟨o.n4, o.side, o.len, o.pos, o.most, o.card, o.nd, o.trump, o.ranks, o.ranksNd, ⟨fun k h => by cases h; exact hb, o.nums.2⟩⟩
    · subst hn
      rw [if_neg t2] at hb
      rw [if_neg t3, if_pos rfl]
      exact ⟨o.n4, o.side, o.len, o.pos, o.most, o.card, o.nd, o.trump, o.ranks, o.ranksNd, ⟨o.nums.1, fun k h => by cases h; exact hb, o.nums.2.2⟩⟩
    · subst hn
      rw [if_pos rfl] at hb
      rw [if_neg t4, if_neg t5]
      exact ⟨o.n4, o.side, o.len, o.pos, o.most, o.card, o.nd, o.trump, o.ranks, o.ranksNd, ⟨o.nums.1, o.nums.2.1, fun k h => by cases h; exact hb⟩⟩
  · rw [if_neg h]
    exact o
theorem take_worth_par {x : Deal} {ws : List Tok} {e : Nat} (o : ParOk x) : ParOk (takeWorth x ws e).2 := by
  unfold takeWorth
  split
  · rename_i h1
    split
    · rename_i h2
      split
      · obtain ⟨r1, r2⟩ := rank_no h1
        have hr := num_le r1
        have hp := num_le h2
        refine ⟨o.n4, o.side, o.len, o.pos, o.most, o.card, o.nd, o.trump, fun y hy => ?_, ?_, o.nums⟩
        · rcases List.mem_append.mp hy with hy | hy
          · exact o.ranks y hy
          · rw [List.mem_singleton.mp hy]
            exact ⟨hr.1, hr.2, hp.2⟩
        · show ((x.rankValues ++ [(numAt ws 1, numAt ws 2)]).map (·.1)).Nodup
          rw [List.map_append, List.nodup_append]
          refine ⟨o.ranksNd, List.nodup_cons.mpr ⟨by simp, List.nodup_nil⟩, fun a ha b hb => ?_⟩
          rw [List.mem_singleton.mp hb]
          intro e
          rw [e] at ha
          have : (x.rankValues.map (·.1)).contains (numAt ws 1) = true := List.contains_iff_mem.mpr ha
          rw [r2] at this
          cases this
      · exact o
    · exact o
  · exact o
theorem take_hand_par {x : Deal} {ws : List Tok} {e : Nat} (o : ParOk x) (hn : x.seats.length < 4) : ParOk (takeHand x ws e).2 := by
  unfold takeHand
  split
  · rename_i h1
    split
    · exact o
    · rename_i h2
      split
      · rename_i h3
        split
        · rename_i h4
          obtain ⟨c1, c2, c3⟩ := cards_no (show cardsFrom 0 (Vbndao.allCards x) (ws.drop 2) = (0, 0) from h3) (Nat.zero_le _)
          have hs := (num_le h1).2
          have hlen : (ws.drop 2).length = ws.length - 2 := List.length_drop
          have hall : Vbndao.allCards { x with seats := x.seats ++ [⟨numAt ws 1, (ws.drop 2).map cardC⟩] } = Vbndao.allCards x ++ (ws.drop 2).map cardC := by
            unfold Vbndao.allCards
            rw [List.flatMap_append]
            simp
          have hsz : sizeOfDeal { x with seats := x.seats ++ [⟨numAt ws 1, (ws.drop 2).map cardC⟩] } = ws.length - 2 ∧ ∀ s ∈ x.seats, s.cards.length = ws.length - 2 := by
            cases hx : x.seats with
            | nil =>
              refine ⟨?_, fun s hs => by cases hs⟩
              unfold sizeOfDeal
              show (([] ++ [(⟨numAt ws 1, (ws.drop 2).map cardC⟩ : Vbndao.Seat)]).headD ⟨0, []⟩).cards.length = _
              rw [← hlen]
              simp
            | cons s r =>
              have e1 : sizeOfDeal x = s.cards.length := by unfold sizeOfDeal; rw [hx]; rfl
              have e2 : ws.length - 2 = sizeOfDeal x := by
                unfold lenFault at h4
                by_cases k : x.seats.isEmpty = false ∧ ws.length - 2 ≠ sizeOfDeal x
                · rw [if_pos k] at h4; cases h4
                · by_cases k2 : ws.length - 2 = sizeOfDeal x
                  · exact k2
                  · exact absurd ⟨by rw [hx]; rfl, k2⟩ k
              refine ⟨by rw [e2, e1]; rfl, fun s' hs' => by rw [e2]; exact o.len s' (by rw [hx]; exact hs')⟩
          refine ⟨by show (x.seats ++ [_]).length ≤ 4; rw [List.length_append]; show x.seats.length + 1 ≤ 4; omega, fun s hs' => ?_, fun s hs' => ?_, fun _ => by rw [hsz.1]; omega, by rw [hsz.1]; omega, ?_, ?_, o.trump, o.ranks, o.ranksNd, o.nums⟩
          · rcases List.mem_append.mp hs' with hs' | hs'
            · exact o.side s hs'
            · rw [List.mem_singleton.mp hs']; exact hs
          · rw [hsz.1]
            rcases List.mem_append.mp hs' with hs' | hs'
            · exact hsz.2 s hs'
            · rw [List.mem_singleton.mp hs']
              show ((ws.drop 2).map cardC).length = _
              rw [List.length_map, hlen]
          · rw [hall]
            intro c hc
            rcases List.mem_append.mp hc with hc | hc
            · exact o.card c hc
            · obtain ⟨y, hy, rfl⟩ := List.mem_map.mp hc
              obtain ⟨c, hc⟩ := c1 y hy
              have : cardC y = c := by unfold cardC; rw [hc]; rfl
              rw [this]
              exact cardTok_ok hc
          · rw [hall]
            exact c3 o.nd
        · exact o
      · exact o
  · exact o
theorem name_mem (l : List Nat) : nameOf l = "" ∨ nameOf l ∈ namesM := by
  unfold nameOf
  cases h : namesM.find? (fun nm => decide (l = nm.cps.toList)) with
  | none => exact .inl rfl
  | some c => exact .inr (List.mem_of_find?_eq_some h)
theorem name_rest {nm : Str} (h : nm = "" ∨ nm ∈ namesM) (h0 : ¬ nm = "") (h1 : ¬ nm = "trump") (h2 : ¬ nm = "ruff") (h3 : ¬ nm = "worth") (h4 : ¬ nm = "hand") : nm = "trick" ∨ nm = "last" ∨ nm = "lead" := by
  rcases h with h | h
  · exact absurd h h0
  · unfold namesM at h
    simp only [List.mem_cons, List.not_mem_nil, or_false] at h
    rcases h with h | h | h | h | h | h | h
    · exact absurd h h1
    · exact absurd h h2
    · exact .inl h
    · exact .inr (.inl h)
    · exact absurd h h3
    · exact .inr (.inr h)
    · exact absurd h h4
theorem take_line_par {x : Deal} {ws : List Tok} {e : Nat} (o : ParOk x) : ParOk (takeLine x ws e).2 := by
  unfold takeLine
  have hm := name_mem (tokAt ws 0).bytes
  generalize nameOf (tokAt ws 0).bytes = nm at hm ⊢
  split
  · exact o
  rename_i h0
  split
  · exact o
  split
  · exact o
  rename_i hh
  split
  · exact take_trump_par o
  rename_i h1
  split
  · exact take_ruff_par o
  rename_i h2
  split
  · exact take_worth_par o
  rename_i h3
  split
  · rename_i h4
    have := o.n4
    exact take_hand_par o (by
      have : x.seats.length ≠ 4 := fun k => hh ⟨h4, k⟩
      omega)
  rename_i h4
  exact take_number_par o (name_rest hm h0 h1 h2 h3 h4)
theorem par_empty : ParOk Vbndao.emptyDeal := ⟨(by decide), fun s h => (by cases h), fun s h => (by cases h), fun h => absurd rfl h, (by decide), fun c h => (by cases h), List.nodup_nil, fun k h => (by cases h), fun y h => (by cases h), List.nodup_nil, ⟨fun k h => (by cases h), fun k h => (by cases h), fun k h => (by cases h)⟩⟩
theorem nx_assoc {a b c : TS} {G G1 : En} {W : Wd} (h : Nx (tSeq (tSeq a b) c) G W G1) : Nx (tSeq a (tSeq b c)) G W G1 := h
theorem rt_assoc {a b c : TS} {G : En} {W : Wd} {R : V → Wd → Prop} (h : Rt (tSeq (tSeq a b) c) G W R) : Rt (tSeq a (tSeq b c)) G W R := h
def lineStep (x : Deal) (p : Nat × List Nat) : (Nat × Nat) × Deal := if (toksAt p.1 p.2).isEmpty = true then ((0, 0), x) else takeLine x (toksAt p.1 p.2) (p.1 + p.2.length)
theorem step_par {x : Deal} {p : Nat × List Nat} (o : ParOk x) : ParOk (lineStep x p).2 := by
  unfold lineStep
  split
  · exact o
  · exact take_line_par o
def stAt (ps : List (Nat × List Nat)) (i : Nat) : Deal := (ps.take i).foldl (fun x p => (lineStep x p).2) Vbndao.emptyDeal
theorem st_par (ps : List (Nat × List Nat)) (i : Nat) : ParOk (stAt ps i) := by
  unfold stAt
  have : ∀ (l : List (Nat × List Nat)) (x : Deal), ParOk x → ParOk (l.foldl (fun x p => (lineStep x p).2) x) := by
    intro l
    induction l with
    | nil => intro x o; exact o
    | cons p l ih => intro x o; exact ih _ (step_par o)
  exact this _ _ par_empty
theorem st_succ {ps : List (Nat × List Nat)} {i : Nat} {p : Nat × List Nat} (h : ps[i]? = some p) : stAt ps (i + 1) = (lineStep (stAt ps i) p).2 := by
  unfold stAt
  rw [take_get h, List.foldl_append]
  rfl
def readM : Deal → List (Nat × List Nat) → (Nat × Nat) × Deal
  | x, [] => ((0, 0), x)
  | x, p :: r => if (lineStep x p).1 = (0, 0) then readM (lineStep x p).2 r else lineStep x p
abbrev pcAt (ps : List (Nat × List Nat)) (i : Nat) : Nat × List Nat := ps.getD i (0, [])
theorem pc_get {ps : List (Nat × List Nat)} {i : Nat} (h : i < ps.length) : ps[i]? = some (pcAt ps i) := by
  unfold pcAt
  rw [List.getD_eq_getElem?_getD, List.getElem?_eq_getElem h]
  rfl
theorem read_from {ps : List (Nat × List Nat)} : ∀ i, i ≤ ps.length → (∀ j, j < i → (lineStep (stAt ps j) (pcAt ps j)).1 = (0, 0)) → readM Vbndao.emptyDeal ps = readM (stAt ps i) (ps.drop i)
  | 0, _, _ => by unfold stAt; rw [List.take_zero, List.drop_zero]; rfl
  | i + 1, hi, h => by
    rw [read_from i (by omega) fun j hj => h j (by omega)]
    have e : ps.drop i = pcAt ps i :: ps.drop (i + 1) := by
      rw [List.drop_eq_getElem_cons (by omega)]
      unfold pcAt
      rw [List.getD_eq_getElem?_getD, List.getElem?_eq_getElem (by omega)]
      rfl
    rw [e]
    conv => lhs; unfold readM
    rw [if_pos (h i (by omega)), st_succ (pc_get (by omega))]
def readD (t : List Nat) : (Nat × Nat) × Deal := if (readM Vbndao.emptyDeal (piecesAt 0 t)).1 = (0, 0) then (wholeFault (readM Vbndao.emptyDeal (piecesAt 0 t)).2 t.length, (readM Vbndao.emptyDeal (piecesAt 0 t)).2) else readM Vbndao.emptyDeal (piecesAt 0 t)
theorem rt_newS {G : En} {W : Wd} {u : TS} {R : V → Wd → Prop} (hpl : plainE G = true) (h1 : 1 < G.length) (h : ∀ x, Rt u ((G.set 1 (some (.ow (ownS K W x Vbndao.emptyDeal)))).set 2 (some (.pl (dN 0)))) W R) :
    Rt (tSeq (tPar 1 2 (tCons (tMake (He.ga K "Sheet") (sp_Sheet K) [] E0 tNil) (tCons (tC (.int 0)) tNil))) u) G W R := fun σ W1 l s D q => by
  show ∀ x dx, W1.H x = none → W1.H dx = none → dx ≠ x → _
  intro x dx hx hdx hne
  have n1 : (upd W1.H dx (HO.own x)) x = none := by rw [upd_ne (fun e => hne e.symm)]; exact hx
  have l3 := (Le.own (W := W1) (o := .own x) hdx noTup_own)
  have l4 := (Le.own (W := W1.own dx (.own x) (W1.freeF hdx) noTup_own) (p := x) (o := .ins (He.ga K "Sheet") dx []) n1 noTup_ins)
  refine ⟨W, (W1.own dx (.own x) (W1.freeF hdx) noTup_own).own x (.ins (He.ga K "Sheet") dx []) (W1.freeF hx) noTup_ins, x, dx, rfl, rfl, l.trans (l3.trans l4), l.h.free hx, W1.freeF hx, upd_same, fun U lu sm ok => ⟨rfl, ?_⟩⟩
  have s2 : Sat G σ U := s.plainUp (show Same W1.F U.F from sm) hpl
  exact ⟨_, _, rfl, h x _ U lu ((s2.set (t := .ow (ownS K W x Vbndao.emptyDeal)) ok 1).set (t := .pl (dN 0)) rfl 2) _ q⟩
theorem rt_fixT {G : En} {W : Wd} {i : Nat} {te : TE} {x : Addr} {y : Deal} {d : Dsc} (hG : G[i]? = some (some (.ow (ownS K W x y)))) (h : Ev te G W d) : Rt (tRet (tTup (tCons (tVar i) (tCons te tNil)))) G W (rD (dT K [dSheet K y, d])) := fun σ W1 l s D q => by
  obtain ⟨v, hv, ow⟩ := s.get hG
  refine ⟨_, hv, h σ W1 l s _ fun r W2 l2 o => ?_⟩
  refine ⟨by show 2 ≤ sizeLine; decide, fun p hp => ?_⟩
  obtain ⟨U, eH, lu, sm, ok⟩ := ownS_fix (l.trans l2) ((ownS K W x y).mono l2 ow)
  have hp' : U.H p = none := by rw [eH]; exact hp
  have key := q (.ref p) (U.add p (.tup [v, r])) (lu.trans (Le.add hp')) ⟨p, [v, r], rfl, .inl (.inl upd_same), (dSheet K y).mono (Le.add (o := .tup [v, r]) hp').f ok, d.mono (Le.add (o := .tup [v, r]) hp').f (d.mono sm o), trivial⟩
  have e2 : (U.add p (.tup [v, r])).H = upd W2.H p (.tup [v, r]) := by show upd U.H p _ = _; rw [eH]
  rw [e2] at key
  exact key
def sp_read_deal (K : PySem.W.Frag) : Sp := spOf (fun a : List Nat => a.length ≤ 5000) (fun a => [dNs a]) (fun a => dT K [dSheet K (readD a).2, dFt K (readD a).1])
/-! read_deal -/
def N_read_deal : List Str := ["text", "sheet", "start", "end", "words", "fault"]
theorem sc_read_deal : FnScope ["text", "sheet", "start", "end", "words", "fault"] ["text"] (defScope s_read_deal) := ⟨rfl, rfl, rfl, by decide +kernel, rfl, by decide +kernel, by decide +kernel⟩
theorem nm_read_deal : nmB ["text", "sheet", "start", "end", "words", "fault"] (defScope s_read_deal) [0, 2, 3, 4, 1, 5] [1, 2, 3, 4, 5] ["Sheet", "line_ends", "words_of", "take_line", "NO_FAULT", "len", "whole_fault"] = true := by decide +kernel
def t_read_deal (K : PySem.W.Frag) : TS := tSeq (tPar 1 2 (tCons (tMake (He.ga K "Sheet") (sp_Sheet K) [] E0 tNil) (tCons (tC (.int 0)) (tNil)))) (tSeq (tFor (iList K (tCall (sp_line_ends K) [] E0 (tCons (tVar 0) (tNil)))) (gName 3) (tSeq (tAsg (tCall (sp_words_of K) [] E0 (tCons (tVar 0) (tCons (tVar 2) (tCons (tVar 3) (tNil))))) (gName 4)) (tSeq (tAsg (tIf (tTest (tOp (rNeD K) (tVar 4) (tLst (tNil)))) (tCall (sp_take_line K) [] E0 (tCons (tVar 1) (tCons (tVar 4) (tCons (tVar 3) (tNil))))) (tC (.ref (He.ga K "NO_FAULT")))) (gName 5)) (tSeq (tIfS (tTest (tOp (rNeD K) (tVar 5) (tC (.ref (He.ga K "NO_FAULT"))))) (tRet (tTup (tCons (tVar 1) (tCons (tVar 5) (tNil))))) (tNext)) (tAsg (tOp oAdd (tVar 3) (tC (.int 1))) (gName 2)))))) (tRet (tTup (tCons (tVar 1) (tCons (tCall (sp_whole_fault K) [] E0 (tCons (tVar 1) (tCons (tCB (cLen K) (tCons (tVar 0) (tNil))) (tNil)))) (tNil))))))
theorem dv_read_deal {X : Cx} (o0 : On fa X ["text", "sheet", "start", "end", "words", "fault"] (defScope s_read_deal)) (hf : ∀ x, X.fn x = true) (c_Sheet : Mak X "Sheet" (He.ga X.K "Sheet") (sp_Sheet X.K)) (c_line_ends : Cal X "line_ends" (sp_line_ends X.K)) (c_words_of : Cal X "words_of" (sp_words_of X.K)) (c_take_line : Cal X "take_line" (sp_take_line X.K)) (c_whole_fault : Cal X "whole_fault" (sp_whole_fault X.K)) : PSs X (defBody s_read_deal) (t_read_deal X.K) := by
  have n0 := nm_read_deal
  exact pss_cons (apar o0 (i := 1) (j := 2) rfl rfl (by decide) (by decide +kernel) (by decide +kernel) (pa_cons (amake0 o0 n0 c_Sheet (gm 0 rfl)) (pa_cons (pe_int) (pa_nil))) (by rfl)) (pss_cons (ps_for o0.nev o0.calm (pi_list (acall o0 n0 c_line_ends (pa_cons (av o0 n0 0 (gm 0 rfl) rfl) (pa_nil)) (gm 1 rfl))) (ag o0 n0 hf 3 (gm 2 rfl) rfl) (pss_cons (aset o0 n0 hf 4 (acall o0 n0 c_words_of (pa_cons (av o0 n0 0 (gm 0 rfl) rfl) (pa_cons (av o0 n0 2 (gm 1 rfl) rfl) (pa_cons (av o0 n0 3 (gm 2 rfl) rfl) (pa_nil)))) (gm 2 rfl)) (gm 3 rfl) rfl) (pss_cons (aset o0 n0 hf 5 (pe_ifExp (pt_cmpR (op_neD o0.hu) (av o0 n0 4 (gm 3 rfl) rfl) (pe_lst (pa_nil)) (nomark _)) (acall o0 n0 c_take_line (pa_cons (av o0 n0 1 (gm 4 rfl) rfl) (pa_cons (av o0 n0 4 (gm 3 rfl) rfl) (pa_cons (av o0 n0 3 (gm 2 rfl) rfl) (pa_nil)))) (gm 3 rfl)) (agr o0 n0 (gm 4 rfl) f_NO_FAULT)) (gm 4 rfl) rfl) (pss_cons (ps_if (pt_cmpR (op_neD o0.hu) (av o0 n0 5 (gm 5 rfl) rfl) (agr o0 n0 (gm 4 rfl) f_NO_FAULT) (nomark _)) (pss_one (ps_ret (pe_tup (pa_cons (av o0 n0 1 (gm 4 rfl) rfl) (pa_cons (av o0 n0 5 (gm 5 rfl) rfl) (pa_nil)))))) (pss_nil)) (pss_one (aset o0 n0 hf 2 (pe_op op_add (av o0 n0 3 (gm 2 rfl) rfl) (pe_int)) (gm 1 rfl) rfl)))))) (pss_one (ps_ret (pe_tup (pa_cons (av o0 n0 1 (gm 4 rfl) rfl) (pa_cons (acall o0 n0 c_whole_fault (pa_cons (av o0 n0 1 (gm 4 rfl) rfl) (pa_cons (acb o0 n0 call_len_seq (by decide +kernel) (pa_cons (av o0 n0 0 (gm 0 rfl) rfl) (pa_nil)) (gm 5 rfl) f_len) (pa_nil))) (gm 6 rfl)) (pa_nil)))))))
theorem toks_ok {t : List Nat} (p : Nat × List Nat) (hp : p.2.length ≤ 50000) : WsOk (toksAt p.1 p.2) := by
  have key : ∀ (l : List Nat) (b : Bool) (q : Nat), (wordsB b q l).length ≤ l.length ∧ ∀ y ∈ wordsB b q l, y.bytes.length ≤ l.length := by
    intro l
    induction l with
    | nil => intro b q; exact ⟨Nat.le_refl _, fun y hy => by cases hy⟩
    | cons c r ih =>
      intro b q
      obtain ⟨h1, h2⟩ := ih (c == 32) (q + 1)
      unfold wordsB
      by_cases hc : (c != 32 && b) = true
      · rw [if_pos hc]
        refine ⟨by simp only [List.length_append, List.length_cons, List.length_nil]; omega, fun y hy => ?_⟩
        rcases List.mem_append.mp hy with hy | hy
        · rw [List.mem_singleton.mp hy]
          exact (List.takeWhile_sublist _).length_le
        · have := h2 y hy
          rw [List.length_cons]
          omega
      · rw [if_neg hc]
        refine ⟨by simp only [List.length_append, List.length_cons, List.length_nil]; omega, fun y hy => ?_⟩
        have := h2 y hy
        rw [List.length_cons]
        omega
  rw [toks_words]
  obtain ⟨h1, h2⟩ := key p.2 true p.1
  exact ⟨by omega, fun y hy => by have := h2 y hy; omega⟩
theorem ev_read_deal (C : Ctx K mg) : ∀ a : List Nat, a.length ≤ 5000 → ∀ W, Rt (t_read_deal K) (envOf ["text", "sheet", "start", "end", "words", "fault"] [dNs a]) W (rD (dT K [dSheet K (readD a).2, dFt K (readD a).1])) := fun t ht W => by
  refine rt_newS rfl (by show 1 < 6; decide) fun x => ?_
  have hat := pieces_at t 0
  have hends : (piecesAt 0 t).map (fun y => y.1 + y.2.length) = endsOf t := by
    rw [pieces_ends]
    have : ((0 : Nat) + ·) = (fun i => i) := by funext i; exact Nat.zero_add i
    rw [this, List.map_id']
  unfold readD
  generalize piecesAt 0 t = ps at hat hends ⊢
  obtain ⟨m, m1, m2, m3⟩ := first_bad (fun i => !decide ((lineStep (stAt ps i) (pcAt ps i)).1 = (0, 0))) ps.length
  have m2 : ∀ j, j < m → (lineStep (stAt ps j) (pcAt ps j)).1 = (0, 0) := fun j hj => by simpa using m2 j hj
  have startAt : Nat → Nat := fun i => if i = 0 then 0 else (pcAt ps (i - 1)).1 + (pcAt ps (i - 1)).2.length + 1
  have hstart : ∀ i, i < ps.length → (pcAt ps i).1 = if i = 0 then 0 else (pcAt ps (i - 1)).1 + (pcAt ps (i - 1)).2.length + 1 := fun i hi => by
    by_cases k : i = 0
    · rw [if_pos k]
      exact (hat i _ (pc_get hi)).2.2.2.1 k
    · rw [if_neg k]
      have := (hat (i - 1) _ (pc_get (by omega))).2.2.2.2 (pcAt ps i) (by rw [show i - 1 + 1 = i by omega]; exact pc_get hi)
      exact this
  rw [read_from m m1 m2]
  have body : ∀ i, i < ps.length → ∀ {G : En}, G = [some (.pl (dNs t)), some (.ow (ownS K W x (stAt ps i))), some (.pl (dN (pcAt ps i).1)), some (.pl (dN ((pcAt ps i).1 + (pcAt ps i).2.length))), none, none] →
      Nx (tSeq (tAsg (tCall (sp_words_of K) [] E0 (tCons (tVar 0) (tCons (tVar 2) (tCons (tVar 3) (tNil))))) (gName 4)) (tAsg (tIf (tTest (tOp (rNeD K) (tVar 4) (tLst (tNil)))) (tCall (sp_take_line K) [] E0 (tCons (tVar 1) (tCons (tVar 4) (tCons (tVar 3) (tNil))))) (tC (.ref (He.ga K "NO_FAULT")))) (gName 5))) G W
        [some (.pl (dNs t)), some (.ow (ownS K W x (lineStep (stAt ps i) (pcAt ps i)).2)), some (.pl (dN (pcAt ps i).1)), some (.pl (dN ((pcAt ps i).1 + (pcAt ps i).2.length))), some (.pl (dWs K (toksAt (pcAt ps i).1 (pcAt ps i).2))), some (.pl (dFt K (lineStep (stAt ps i) (pcAt ps i)).1))] := fun i hi G hG => by
    subst hG
    obtain ⟨a1, a2, a3, _, _⟩ := hat i _ (pc_get hi)
    have hok := st_par ps i
    generalize stAt ps i = y at hok ⊢
    generalize pcAt ps i = p at a1 a2 a3 ⊢
    rw [Nat.zero_add] at a2
    rw [Nat.sub_zero] at a3
    refine nx_seq (nx_set (d := dWs K (toksAt p.1 p.2)) ((ev_call (t, p.1, p.1 + p.2.length) ⟨Nat.le_add_right _ _, a2, by show t.length ≤ 100000; omega⟩ (ea_cons ev_var (ea_cons ev_var (ea_cons ev_var ea_nil)))).to ?_)) ?_
    · show dL ((toksAt p.1 ((t.drop p.1).take (p.1 + p.2.length - p.1))).map (dTok K)) = _
      rw [Nat.add_sub_cancel_left, ← a3]
    have hw := toks_ok (t := t) p (by omega)
    unfold lineStep
    by_cases e : (toksAt p.1 p.2).isEmpty = true
    · rw [if_pos e]
      exact nx_asgF ((et_test (ev_someWs (ws := toksAt p.1 p.2) ev_var)).to (by rw [e]; rfl)) (nx_set (ev_no C))
    · rw [if_neg e]
      exact nx_asgT ((et_test (ev_someWs (ws := toksAt p.1 p.2) ev_var)).to (by simpa using e)) (nx_callS (i := 1) (j := 5) (y, toksAt p.1 p.2, p.1 + p.2.length) ⟨hw, hok, fun k => e (List.isEmpty_iff.mpr k)⟩ rfl rfl (ea_cons ev_var (ea_cons ev_var ea_nil)))
  refine rt_from ?_ (rt_forM ps (fun p => dN (p.1 + p.2.length)) (fun i => [some (.pl (dNs t)), some (.ow (ownS K W x (stAt ps i))), some (.pl (dN (if i = 0 then 0 else (pcAt ps (i - 1)).1 + (pcAt ps (i - 1)).2.length + 1))), none, none, none]) (fun p G => G.set 3 (some (.pl (dN (p.1 + p.2.length))))) [3] [3, 4, 5] m m1 ?_ (fun _ _ => tg_name) (fun i a hi ha => ?_) (fun a ha => ?_) fun hx => ?_)
  · unfold stAt
    rw [List.take_zero]
    rfl
  · refine ei_list ((ev_call t (by show t.length ≤ 50000; omega) (ea_cons ev_var ea_nil)).to ?_)
    rw [← hends]
    exact dL_mm
  · have ea : a = pcAt ps i := by rw [pc_get (by omega)] at ha; cases ha; rfl
    subst ea
    refine ⟨_, nx_assoc (nx_seq (body i (by omega) (by rw [hstart i (by omega)]; rfl)) (nx_seq (nx_ifF ((et_test (ev_neNo C (f := (lineStep (stAt ps i) (pcAt ps i)).1) ev_var)).to (by rw [m2 i hi]; rfl)) nx_skip) (nx_set (ev_addN (k := 1) ev_var ev_c)))), ?_⟩
    rw [st_succ (pc_get (by omega)), if_neg (Nat.succ_ne_zero i), Nat.add_sub_cancel]
    rfl
  · have hl : m < ps.length := (List.getElem?_eq_some_iff.mp ha).1
    have ea : a = pcAt ps m := by rw [pc_get hl] at ha; cases ha; rfl
    subst ea
    have hm : ¬ (lineStep (stAt ps m) (pcAt ps m)).1 = (0, 0) := by simpa using m3 hl
    have ed : ps.drop m = pcAt ps m :: ps.drop (m + 1) := by
      rw [List.drop_eq_getElem_cons hl]
      unfold pcAt
      rw [List.getD_eq_getElem?_getD, List.getElem?_eq_getElem hl]
      rfl
    have er : readM (stAt ps m) (ps.drop m) = lineStep (stAt ps m) (pcAt ps m) := by
      rw [ed]
      unfold readM
      rw [if_neg hm]
    rw [er, if_neg hm]
    refine rt_assoc (rt_seq (body m hl (by rw [hstart m hl]; rfl)) ?_)
    exact rt_ifR (b := true) ((et_test (ev_neNo C (f := (lineStep (stAt ps m) (pcAt ps m)).1) ev_var)).to (by rw [decide_eq_false hm]; rfl)) (fun _ => rt_fixT (i := 1) rfl ev_var) fun h => nomatch h
  · have er : readM (stAt ps m) (ps.drop m) = ((0, 0), stAt ps m) := by
      rw [hx, List.drop_eq_nil_of_le (Nat.le_refl _)]
      rfl
    rw [er, if_pos rfl]
    refine rt_fixT (i := 1) rfl (ev_thaw (i := 1) (o := ownS K W x (stAt ps m)) (df := dSheet K (stAt ps m)) rfl rfl (fun v U h => ownS_all h) flat_ft fun W' => ev_call (stAt ps m, t.length) trivial (ea_cons ev_var (ea_cons (ev_lenM ev_var) ea_nil)))
theorem ok_read_deal {P : Program} {w : World} {K : PySem.W.Frag} {mg : Str → Option Value} {base : Heap} (C : Ctx K mg) : Ok P w K mg base 7 "read_deal" ["text"] (sp_read_deal K) :=
  ok_gen C 71 rfl rfl sc_read_deal fg_read_deal (fun _ _ _ _ _ _ hr o => dv_read_deal o (fun _ => rfl) ((okM_Sheet C).mak hr (by decide)) ((ok_line_ends C).cal hr (by decide)) ((ok_words_of C).cal hr (by decide)) ((ok_take_line C).cal hr (by decide)) ((ok_whole_fault C).cal hr (by decide))) (fun _ _ _ _ _ _ us hl => match us, hl with | [_], _ => rfl) (len_of fun _ => rfl) fun _ _ _ _ h => reads_of (ev_read_deal C) h
end
end Fd

namespace Fd
open PySem PySem.Spec PyProof.Rows L2
open Vbndao (Deal Position)
section
/-! ### the specification's reading comes to the program's -/
def toEx (r : (Nat × Nat) × Deal) : Except Vbndaa.ParseError Deal := if r.1 = (0, 0) then .ok r.2 else .error ⟨r.1.1, r.1.2⟩
theorem ex_ok {x : Deal} : toEx ((0, 0), x) = .ok x := if_pos rfl
theorem ex_er {a b : Nat} {x : Deal} (h : a ≠ 0) : toEx ((a, b), x) = .error ⟨a, b⟩ := if_neg fun k => h (by cases k; rfl)
theorem drop_at {ws r : List Tok} {i : Nat} (h : ws.drop i = r) : (ws.length ≤ i ↔ r = []) ∧ (∀ w l, r = w :: l → tokAt ws i = w ∧ i < ws.length ∧ ws.drop (i + 1) = l) := by
  constructor
  · rw [← h, List.drop_eq_nil_iff]
  · intro w l e
    rw [e] at h
    have hl : i < ws.length := by
      rcases Nat.lt_or_ge i ws.length with k | k
      · exact k
      · rw [List.drop_eq_nil_of_le k] at h; cases h
    rw [List.drop_eq_getElem_cons hl] at h
    injection h with h1 h2
    refine ⟨?_, hl, h2⟩
    unfold tokAt
    rw [List.getD_eq_getElem?_getD, List.getElem?_eq_getElem hl]
    exact h1
theorem nf_nil {ws : List Tok} {i e lo hi : Nat} (h : ws.drop i = []) : numFault ws i e lo hi = (1, e) := by
  unfold numFault
  exact if_pos ((drop_at h).1.mpr rfl)
theorem nf_cons {ws l : List Tok} {w : Tok} {i e lo hi : Nat} (h : ws.drop i = w :: l) : numFault ws i e lo hi = match Vbndaa.natOfToken 3 w.bytes with
    | none => (1, w.offset)
    | some n => if lo ≤ n ∧ n ≤ hi then (0, 0) else (3, w.offset) := by
  obtain ⟨k1, k2, k3⟩ := (drop_at h).2 w l rfl
  unfold numFault
  rw [if_neg (show ¬ i ≥ ws.length by omega), k1]
  all_goals (cases Vbndaa.natOfToken 3 w.bytes <;> rfl)
theorem na_cons {ws l : List Tok} {w : Tok} {i : Nat} (h : ws.drop i = w :: l) : numAt ws i = (Vbndaa.natOfToken 3 w.bytes).getD 0 := by
  show (Vbndaa.natOfToken 3 (tokAt ws i).bytes).getD 0 = _
  rw [((drop_at h).2 w l rfl).1]
theorem ef_nil {ws : List Tok} {i : Nat} (h : ws.drop i = []) : extraFault ws i = (0, 0) := by
  unfold extraFault
  have := (drop_at h).1.mpr rfl
  exact if_neg (by omega)
theorem ef_cons {ws l : List Tok} {w : Tok} {i : Nat} (h : ws.drop i = w :: l) : extraFault ws i = (1, w.offset) := by
  obtain ⟨k1, k2, k3⟩ := (drop_at h).2 w l rfl
  unfold extraFault
  rw [if_pos k2, k1]
theorem sf_nil {ws : List Tok} {e : Nat} (h : ws.drop 1 = []) : suitFault ws e = (1, e) := by
  unfold suitFault
  have := (drop_at h).1.mpr rfl
  exact if_pos (by omega)
theorem sf_cons {ws l : List Tok} {w : Tok} {e : Nat} (h : ws.drop 1 = w :: l) : suitFault ws e = if (suitTok w.bytes).isNone = true then (1, w.offset) else (0, 0) := by
  obtain ⟨k1, k2, k3⟩ := (drop_at h).2 w l rfl
  unfold suitFault
  rw [if_neg (show ¬ ws.length < 2 by omega), k1]
theorem ne_00 {a b : Nat} (h : a ≠ 0) : ¬ ((a, b) : Nat × Nat) = (0, 0) := fun k => h (by cases k; rfl)
theorem nat_range {ws r : List Tok} {i e lo hi : Nat} (h : ws.drop i = r) : Vbndao.parseNatInRange lo hi ⟨r, e⟩ = if numFault ws i e lo hi = (0, 0) then .ok (numAt ws i, ⟨ws.drop (i + 1), e⟩) else .error ⟨(numFault ws i e lo hi).1, (numFault ws i e lo hi).2⟩ := by
  cases r with
  | nil => rw [nf_nil h, if_neg (ne_00 (by decide))]; rfl
  | cons w l =>
    have hv := nf_cons (e := e) (lo := lo) (hi := hi) h
    rw [na_cons h, ((drop_at h).2 w l rfl).2.2]
    unfold Vbndao.parseNatInRange Vbndaa.parseToken
    dsimp only
    cases hn : Vbndaa.natOfToken 3 w.bytes with
    | none =>
      rw [hn] at hv
      have hv : numFault ws i e lo hi = (1, w.offset) := hv
      rw [hv, if_neg (ne_00 (by decide))]
    | some n =>
      rw [hn] at hv
      dsimp only at hv ⊢
      by_cases q : lo ≤ n ∧ n ≤ hi
      · rw [if_pos q] at hv
        rw [hv, if_pos q, if_pos rfl]; rfl
      · rw [if_neg q] at hv
        rw [hv, if_neg q, if_neg (ne_00 (by decide))]; rfl
theorem expect_end {ws r : List Tok} {i e : Nat} {x : Deal} (h : ws.drop i = r) : Vbndaa.expectEnd 1 x ⟨r, e⟩ = if extraFault ws i = (0, 0) then .ok x else .error ⟨(extraFault ws i).1, (extraFault ws i).2⟩ := by
  cases r with
  | nil => rw [ef_nil h, if_pos rfl]; rfl
  | cons w l => rw [ef_cons h, if_neg (ne_00 (by decide))]; rfl
theorem parse_suit {ws r : List Tok} {e : Nat} (h : ws.drop 1 = r) : Vbndao.parseSuit ⟨r, e⟩ = if suitFault ws e = (0, 0) then .ok ((suitTok (tokAt ws 1).bytes).getD 0, ⟨ws.drop 2, e⟩) else .error ⟨(suitFault ws e).1, (suitFault ws e).2⟩ := by
  cases r with
  | nil => rw [sf_nil h, if_neg (ne_00 (by decide))]; rfl
  | cons w l =>
    obtain ⟨k1, k2, k3⟩ := (drop_at h).2 w l rfl
    have hv := sf_cons (e := e) h
    rw [k1, show ws.drop 2 = l from k3]
    have e1 : Vbndao.parseSuit ⟨w :: l, e⟩ = match suitTok w.bytes with
        | some x => .ok (x, ⟨l, e⟩)
        | none => .error ⟨1, w.offset⟩ := by
      obtain ⟨off, b⟩ := w
      match b with
      | [] => rfl
      | [c] =>
        unfold Vbndao.parseSuit Vbndaa.parseToken suitTok
        dsimp only
        by_cases q : 97 ≤ c ∧ c ≤ 100
        · simp only [if_pos q]
        · simp only [if_neg q]
      | c :: d :: r => rfl
    rw [e1]
    cases hs : suitTok w.bytes with
    | none =>
      rw [hs, if_pos (show (none : Option Nat).isNone = true from rfl)] at hv
      rw [hv, if_neg (ne_00 (by decide))]
    | some n =>
      rw [hs, if_neg (show ¬ (some n : Option Nat).isNone = true from Bool.false_ne_true)] at hv
      rw [hv, if_pos rfl]; rfl
theorem kw_t {a : String} {off e : Nat} {r : List Tok} : Vbndao.nextTokenIsKeyword a ⟨⟨off, Vbndao.toBytes a⟩ :: r, e⟩ = true := by
  show (Vbndao.toBytes a == Vbndao.toBytes a) = true
  exact beq_self_eq_true _
theorem kw_f {a : String} {b : List Nat} {off e : Nat} {r : List Tok} (h : ¬ b = Vbndao.toBytes a) : ¬ Vbndao.nextTokenIsKeyword a ⟨⟨off, b⟩ :: r, e⟩ = true := fun k => h (eq_of_beq (show (b == Vbndao.toBytes a) = true from k))
theorem number_line {x : Deal} {ws r : List Tok} {i e lo hi : Nat} {f : Nat → Deal} (h : ws.drop i = r) : Vbndao.parseNumberLine lo hi f ⟨r, e⟩ = if numFault ws i e lo hi = (0, 0) then (if extraFault ws (i + 1) = (0, 0) then .ok (f (numAt ws i)) else .error ⟨(extraFault ws (i + 1)).1, (extraFault ws (i + 1)).2⟩) else .error ⟨(numFault ws i e lo hi).1, (numFault ws i e lo hi).2⟩ := by
  unfold Vbndao.parseNumberLine
  rw [nat_range h]
  by_cases q : numFault ws i e lo hi = (0, 0)
  · rw [if_pos q, if_pos q]
    exact expect_end rfl
  · rw [if_neg q, if_neg q]
theorem num_line_ex {x y : Deal} {ws : List Tok} {e hi : Nat} : toEx (if numLineFault ws e hi = (0, 0) then ((0, 0), y) else (numLineFault ws e hi, x)) = if numFault ws 1 e 0 hi = (0, 0) then (if extraFault ws 2 = (0, 0) then .ok y else .error ⟨(extraFault ws 2).1, (extraFault ws 2).2⟩) else .error ⟨(numFault ws 1 e 0 hi).1, (numFault ws 1 e 0 hi).2⟩ := by
  by_cases q : numFault ws 1 e 0 hi = (0, 0)
  · have en : numLineFault ws e hi = extraFault ws 2 := by unfold numLineFault; rw [if_neg (fun k => k q)]
    rw [if_pos q, en]
    by_cases q2 : extraFault ws 2 = (0, 0)
    · rw [if_pos q2, if_pos q2]; exact ex_ok
    · rw [if_neg q2, if_neg q2]; exact if_neg q2
  · have en : numLineFault ws e hi = numFault ws 1 e 0 hi := by unfold numLineFault; rw [if_pos q]
    rw [if_neg q, en, if_neg q]; exact if_neg q
theorem parse_cards {x : Deal} {e : Nat} : ∀ (ws : List Tok) (f : Nat) (so : List Nat), f ≤ 4 → ¬ (ws = [] ∧ so = []) → Vbndao.parseCards x f so ⟨ws, e⟩ = if cardsFrom (4 - f) (Vbndao.allCards x ++ so) ws = (0, 0) then .ok (so ++ ws.map cardC) else .error ⟨(cardsFrom (4 - f) (Vbndao.allCards x ++ so) ws).1, (cardsFrom (4 - f) (Vbndao.allCards x ++ so) ws).2⟩
  | [], f, so, hf, hne => by
    have hso : so ≠ [] := fun k => hne ⟨rfl, k⟩
    have e0 : cardsFrom (4 - f) (Vbndao.allCards x ++ so) [] = (0, 0) := rfl
    rw [if_pos e0, List.map_nil, List.append_nil]
    cases f with
    | zero => rfl
    | succ f =>
      unfold Vbndao.parseCards
      rw [if_pos ⟨rfl, List.isEmpty_eq_false_iff.mpr hso⟩]
  | w :: r, 0, so, hf, hne => by
    have e0 : cardsFrom (4 - 0) (Vbndao.allCards x ++ so) (w :: r) = (7, w.offset) := rfl
    rw [e0, if_neg (by simp)]
    rfl
  | w :: r, f + 1, so, hf, hne => by
    unfold Vbndao.parseCards
    rw [if_neg (fun k => by have := k.1; cases this)]
    have h4 : ¬ 4 - (f + 1) = 4 := by omega
    unfold Vbndao.parseCard Vbndaa.parseToken
    dsimp only
    cases hc : Vbndao.cardOfToken w.bytes with
    | none =>
      have eb : cardsFrom (4 - (f + 1)) (Vbndao.allCards x ++ so) (w :: r) = (1, w.offset) := by
        unfold cardsFrom
        have : cardBad (4 - (f + 1)) (Vbndao.allCards x ++ so) w = some (1, w.offset) := by unfold cardBad; rw [if_neg h4, hc]
        rw [this]
      rw [eb, if_neg (ne_00 (by decide))]
    | some c =>
      dsimp only
      by_cases k : (Vbndao.allCards x ++ so).contains c = true
      · have eb : cardsFrom (4 - (f + 1)) (Vbndao.allCards x ++ so) (w :: r) = (4, w.offset) := by
          unfold cardsFrom
          have : cardBad (4 - (f + 1)) (Vbndao.allCards x ++ so) w = some (4, w.offset) := by unfold cardBad; rw [if_neg h4, hc]; dsimp only; rw [if_pos k]
          rw [this]
        rw [if_pos k, eb, if_neg (ne_00 (by decide))]
        rfl
      · have eb : cardsFrom (4 - (f + 1)) (Vbndao.allCards x ++ so) (w :: r) = cardsFrom (4 - (f + 1) + 1) ((Vbndao.allCards x ++ so) ++ [cardC w]) r := by
          conv => lhs; unfold cardsFrom
          have : cardBad (4 - (f + 1)) (Vbndao.allCards x ++ so) w = none := by unfold cardBad; rw [if_neg h4, hc]; dsimp only; rw [if_neg k]
          rw [this]
        rw [if_neg k, eb]
        have ec : cardC w = c := by unfold cardC; rw [hc]; rfl
        rw [parse_cards r f (so ++ [c]) (by omega) (fun k => by simp at k), ec, show 4 - (f + 1) + 1 = 4 - f by omega, List.append_assoc (Vbndao.allCards x) so [c], List.map_cons, ec, List.append_assoc so [c]]
        rfl
theorem names_at : ((namesM.map fun nm => nm.cps.toList) = ["trump", "ruff", "trick", "last", "worth", "lead", "hand"].map Vbndao.toBytes) := by decide +kernel
theorem name_none {l : List Nat} (h1 : ¬ l = Vbndao.toBytes "trump") (h2 : ¬ l = Vbndao.toBytes "ruff") (h3 : ¬ l = Vbndao.toBytes "trick") (h4 : ¬ l = Vbndao.toBytes "last") (h5 : ¬ l = Vbndao.toBytes "worth") (h6 : ¬ l = Vbndao.toBytes "lead") (h7 : ¬ l = Vbndao.toBytes "hand") : nameOf l = "" := by
  unfold nameOf
  have : namesM.find? (fun nm => decide (l = nm.cps.toList)) = none := by
    rw [List.find?_eq_none]
    intro nm hnm k
    have k := of_decide_eq_true k
    have hm : nm.cps.toList ∈ namesM.map fun nm => nm.cps.toList := List.mem_map.mpr ⟨nm, hnm, rfl⟩
    rw [names_at, ← k] at hm
    simp only [List.map_cons, List.map_nil, List.mem_cons, List.not_mem_nil, or_false] at hm
    rcases hm with k | k | k | k | k | k | k
    · exact h1 k
    · exact h2 k
    · exact h3 k
    · exact h4 k
    · exact h5 k
    · exact h6 k
    · exact h7 k
  rw [this]
  rfl
theorem parse_line {x : Deal} {ws : List Tok} {e : Nat} (o : ParOk x) (hne : ws ≠ []) : Vbndao.parseDealLine x ⟨ws, e⟩ = toEx (takeLine x ws e) := by
  obtain ⟨y, r, rfl⟩ : ∃ y r, ws = y :: r := by
    cases ws with
    | nil => exact absurd rfl hne
    | cons y r => exact ⟨y, r, rfl⟩
  obtain ⟨off, b⟩ := y
  have ht : tokAt (⟨off, b⟩ :: r) 0 = ⟨off, b⟩ := rfl
  have hd : (⟨off, b⟩ :: r : List Tok).drop 1 = r := rfl
  unfold Vbndao.parseDealLine takeLine
  rw [ht]
  dsimp only
  have hat : Vbndao.currentOffset ⟨⟨off, b⟩ :: r, e⟩ = off := rfl
  rw [hat]
  have hsk : Vbndao.skipToken ⟨⟨off, b⟩ :: r, e⟩ = ⟨r, e⟩ := rfl
  rw [hsk]
  by_cases b1 : b = Vbndao.toBytes "trump"
  · subst b1
    have hn : nameOf (Vbndao.toBytes "trump") = "trump" := by decide +kernel
    have g : givenB x "trump" = x.trump.isSome := by unfold givenB; rw [if_neg (show ¬ ("trump" : Str) = "ruff" by decide +kernel), if_pos rfl]
    rw [hn, if_pos kw_t, if_neg (show ¬ ("trump" : Str) = "" by decide +kernel), g]
    by_cases q : x.trump.isSome = true
    · rw [if_pos q, if_pos q, ex_er (by decide)]
    · rw [if_neg q, if_neg q, if_neg (show ¬ (("trump" : Str) = "hand" ∧ x.seats.length = 4) from fun k => absurd k.1 (by decide +kernel)), if_pos rfl, parse_suit hd]
      unfold takeTrump
      by_cases q1 : suitFault (⟨off, Vbndao.toBytes "trump"⟩ :: r) e = (0, 0)
      · rw [if_pos q1, if_pos q1]
        dsimp only
        rw [expect_end rfl]
        have hs : suitTok (tokAt (⟨off, Vbndao.toBytes "trump"⟩ :: r) 1).bytes = some ((suitTok (tokAt (⟨off, Vbndao.toBytes "trump"⟩ :: r) 1).bytes).getD 0) := by
          have k := suitFault_no q1
          unfold suitFault at q1
          rw [if_neg (by omega)] at q1
          cases hh : suitTok (tokAt (⟨off, Vbndao.toBytes "trump"⟩ :: r) 1).bytes with
          | none => rw [hh, if_pos (show (none : Option Nat).isNone = true from rfl)] at q1; cases q1
          | some n => rfl
        by_cases q2 : extraFault (⟨off, Vbndao.toBytes "trump"⟩ :: r) 2 = (0, 0)
        · rw [if_pos q2, if_pos q2, ex_ok, ← hs]
        · rw [if_neg q2, if_neg q2]; exact (if_neg q2).symm
      · rw [if_neg q1, if_neg q1]; exact (if_neg q1).symm
  rw [if_neg (kw_f b1)]
  by_cases b2 : b = Vbndao.toBytes "ruff"
  · subst b2
    have hn : nameOf (Vbndao.toBytes "ruff") = "ruff" := by decide +kernel
    have g : givenB x "ruff" = x.mustRuff := by unfold givenB; rw [if_pos rfl]
    rw [hn, if_pos kw_t, if_neg (show ¬ ("ruff" : Str) = "" by decide +kernel), g]
    by_cases q : x.mustRuff = true
    · rw [if_pos q, if_pos q, ex_er (by decide)]
    · rw [if_neg q, if_neg q, if_neg (show ¬ (("ruff" : Str) = "hand" ∧ x.seats.length = 4) from fun k => absurd k.1 (by decide +kernel)), if_neg (show ¬ ("ruff" : Str) = "trump" by decide +kernel), if_pos rfl, expect_end hd]
      unfold takeRuff
      by_cases q1 : extraFault (⟨off, Vbndao.toBytes "ruff"⟩ :: r) 1 = (0, 0)
      · rw [if_pos q1, if_pos q1, ex_ok]
      · rw [if_neg q1, if_neg q1]; exact (if_neg q1).symm
  rw [if_neg (kw_f b2)]
  by_cases b3 : b = Vbndao.toBytes "trick"
  · subst b3
    have hn : nameOf (Vbndao.toBytes "trick") = "trick" := by decide +kernel
    have g : givenB x "trick" = x.trickValue.isSome := by unfold givenB; rw [if_neg (show ¬ ("trick" : Str) = "ruff" by decide +kernel), if_neg (show ¬ ("trick" : Str) = "trump" by decide +kernel), if_pos rfl]
    rw [hn, if_pos kw_t, if_neg (show ¬ ("trick" : Str) = "" by decide +kernel), g]
    by_cases q : x.trickValue.isSome = true
    · rw [if_pos q, if_pos q, ex_er (by decide)]
    · rw [if_neg q, if_neg q, if_neg (show ¬ (("trick" : Str) = "hand" ∧ x.seats.length = 4) from fun k => absurd k.1 (by decide +kernel)), if_neg (show ¬ ("trick" : Str) = "trump" by decide +kernel), if_neg (show ¬ ("trick" : Str) = "ruff" by decide +kernel), if_neg (show ¬ ("trick" : Str) = "worth" by decide +kernel), if_neg (show ¬ ("trick" : Str) = "hand" by decide +kernel), number_line (x := x) hd]
      unfold takeNumber
      rw [if_neg (show ¬ ("trick" : Str) = "lead" by decide +kernel), num_line_ex]
      unfold updNum
      rw [if_pos rfl]
  rw [if_neg (kw_f b3)]
  by_cases b4 : b = Vbndao.toBytes "last"
  · subst b4
    have hn : nameOf (Vbndao.toBytes "last") = "last" := by decide +kernel
    have g : givenB x "last" = x.lastTrickBonus.isSome := by unfold givenB; rw [if_neg (show ¬ ("last" : Str) = "ruff" by decide +kernel), if_neg (show ¬ ("last" : Str) = "trump" by decide +kernel), if_neg (show ¬ ("last" : Str) = "trick" by decide +kernel), if_pos rfl]
    rw [hn, if_pos kw_t, if_neg (show ¬ ("last" : Str) = "" by decide +kernel), g]
    by_cases q : x.lastTrickBonus.isSome = true
    · rw [if_pos q, if_pos q, ex_er (by decide)]
    · rw [if_neg q, if_neg q, if_neg (show ¬ (("last" : Str) = "hand" ∧ x.seats.length = 4) from fun k => absurd k.1 (by decide +kernel)), if_neg (show ¬ ("last" : Str) = "trump" by decide +kernel), if_neg (show ¬ ("last" : Str) = "ruff" by decide +kernel), if_neg (show ¬ ("last" : Str) = "worth" by decide +kernel), if_neg (show ¬ ("last" : Str) = "hand" by decide +kernel), number_line (x := x) hd]
      unfold takeNumber
      rw [if_neg (show ¬ ("last" : Str) = "lead" by decide +kernel), num_line_ex]
      unfold updNum
      rw [if_neg (show ¬ ("last" : Str) = "trick" by decide +kernel), if_pos rfl]
  rw [if_neg (kw_f b4)]
  by_cases b5 : b = Vbndao.toBytes "worth"
  · subst b5
    have hn : nameOf (Vbndao.toBytes "worth") = "worth" := by decide +kernel
    have g : givenB x "worth" = false := by unfold givenB; rw [if_neg (show ¬ ("worth" : Str) = "ruff" by decide +kernel), if_neg (show ¬ ("worth" : Str) = "trump" by decide +kernel), if_neg (show ¬ ("worth" : Str) = "trick" by decide +kernel), if_neg (show ¬ ("worth" : Str) = "last" by decide +kernel), decide_eq_false (show ¬ ("worth" : Str) = "lead" by decide +kernel)]; rfl
    rw [hn, if_pos kw_t, if_neg (show ¬ ("worth" : Str) = "" by decide +kernel), g, if_neg Bool.false_ne_true, if_neg (show ¬ (("worth" : Str) = "hand" ∧ x.seats.length = 4) from fun k => absurd k.1 (by decide +kernel)), if_neg (show ¬ ("worth" : Str) = "trump" by decide +kernel), if_neg (show ¬ ("worth" : Str) = "ruff" by decide +kernel), if_pos rfl]
    unfold Vbndao.parseRankValue takeWorth
    rw [nat_range hd]
    generalize hws : (⟨off, Vbndao.toBytes "worth"⟩ :: r : List Tok) = ws at hd
    have en : Vbndao.maxRank = 13 := rfl
    rw [en]
    by_cases q : numFault ws 1 e 1 13 = (0, 0)
    · rw [if_pos q]
      obtain ⟨k1, _⟩ := numFault_some q
      obtain ⟨d1, d2⟩ := drop_at hd
      obtain ⟨w, l, er⟩ : ∃ w l, r = w :: l := by
        cases r with
        | nil => exact absurd (d1.mpr rfl) (by omega)
        | cons w l => exact ⟨w, l, rfl⟩
      obtain ⟨j1, j2, j3⟩ := d2 w l er
      have hc : (x.rankValues.any fun y => y.1 == numAt ws 1) = (x.rankValues.map (·.1)).contains (numAt ws 1) := by
        rw [List.contains_eq_any_beq, List.any_map]
        congr 1
        funext y
        show (y.1 == numAt ws 1) = (numAt ws 1 == y.1)
        rw [Bool.eq_iff_iff, beq_iff_eq, beq_iff_eq]
        exact eq_comm
      dsimp only
      rw [hc]
      by_cases q2 : (x.rankValues.map (·.1)).contains (numAt ws 1) = true
      · have ek : rankFault x ws e = (4, (tokAt ws 1).offset) := if_pos ⟨q, q2⟩
        rw [if_pos q2, ek, if_neg (ne_00 (by decide)), ex_er (by decide), j1, er]
        rfl
      · have ek : rankFault x ws e = numFault ws 1 e 1 13 := if_neg (fun k => q2 k.2)
        rw [if_neg q2, ek, if_pos q, number_line (x := x) rfl]
        by_cases q3 : numFault ws 2 e 0 50 = (0, 0)
        · rw [if_pos q3, if_pos q3]
          by_cases q4 : extraFault ws 3 = (0, 0)
          · rw [if_pos q4, if_pos q4, ex_ok]
          · rw [if_neg q4, if_neg q4]; exact (if_neg q4).symm
        · rw [if_neg q3, if_neg q3]; exact (if_neg q3).symm
    · have ek : rankFault x ws e = numFault ws 1 e 1 13 := if_neg (fun k => q k.1)
      rw [if_neg q, ek, if_neg q]
      exact (if_neg q).symm
  rw [if_neg (kw_f b5)]
  by_cases b6 : b = Vbndao.toBytes "lead"
  · subst b6
    have hn : nameOf (Vbndao.toBytes "lead") = "lead" := by decide +kernel
    have g : givenB x "lead" = x.firstLeader.isSome := by unfold givenB; rw [if_neg (show ¬ ("lead" : Str) = "ruff" by decide +kernel), if_neg (show ¬ ("lead" : Str) = "trump" by decide +kernel), if_neg (show ¬ ("lead" : Str) = "trick" by decide +kernel), if_neg (show ¬ ("lead" : Str) = "last" by decide +kernel), decide_eq_true rfl, Bool.true_and]
    rw [hn, if_pos kw_t, if_neg (show ¬ ("lead" : Str) = "" by decide +kernel), g]
    by_cases q : x.firstLeader.isSome = true
    · rw [if_pos q, if_pos q, ex_er (by decide)]
    · rw [if_neg q, if_neg q, if_neg (show ¬ (("lead" : Str) = "hand" ∧ x.seats.length = 4) from fun k => absurd k.1 (by decide +kernel)), if_neg (show ¬ ("lead" : Str) = "trump" by decide +kernel), if_neg (show ¬ ("lead" : Str) = "ruff" by decide +kernel), if_neg (show ¬ ("lead" : Str) = "worth" by decide +kernel), if_neg (show ¬ ("lead" : Str) = "hand" by decide +kernel), number_line (x := x) hd]
      unfold takeNumber
      rw [if_pos rfl, num_line_ex]
      unfold updNum
      rw [if_neg (show ¬ ("lead" : Str) = "trick" by decide +kernel), if_neg (show ¬ ("lead" : Str) = "last" by decide +kernel)]
  rw [if_neg (kw_f b6)]
  by_cases b7 : b = Vbndao.toBytes "hand"
  · subst b7
    have hn : nameOf (Vbndao.toBytes "hand") = "hand" := by decide +kernel
    have g : givenB x "hand" = false := by unfold givenB; rw [if_neg (show ¬ ("hand" : Str) = "ruff" by decide +kernel), if_neg (show ¬ ("hand" : Str) = "trump" by decide +kernel), if_neg (show ¬ ("hand" : Str) = "trick" by decide +kernel), if_neg (show ¬ ("hand" : Str) = "last" by decide +kernel), decide_eq_false (show ¬ ("hand" : Str) = "lead" by decide +kernel)]; rfl
    rw [hn, if_pos kw_t, if_neg (show ¬ ("hand" : Str) = "" by decide +kernel), g, if_neg Bool.false_ne_true]
    have h4 := o.n4
    by_cases q : 4 ≤ x.seats.length
    · rw [if_pos q, if_pos ⟨rfl, by omega⟩, ex_er (by decide)]
    · rw [if_neg q, if_neg (fun k => q (by have := k.2; omega)), if_neg (show ¬ ("hand" : Str) = "trump" by decide +kernel), if_neg (show ¬ ("hand" : Str) = "ruff" by decide +kernel), if_neg (show ¬ ("hand" : Str) = "worth" by decide +kernel), if_pos rfl]
      unfold Vbndao.parseHand takeHand lenFault
      rw [nat_range hd]
      generalize hws : (⟨off, Vbndao.toBytes "hand"⟩ :: r : List Tok) = ws at hd
      have ho : (tokAt ws 0).offset = off := by rw [← hws]; rfl
      by_cases q1 : numFault ws 1 e 0 1 = (0, 0)
      · rw [if_pos q1, if_pos q1]
        dsimp only
        by_cases q2 : ws.length < 3
        · rw [if_pos q2, ex_er (by decide), List.drop_eq_nil_of_le (by omega)]
          rfl
        · rw [if_neg q2, parse_cards (ws.drop 2) 4 [] (Nat.le_refl _) (fun k => by rw [List.drop_eq_nil_iff] at k; omega), List.append_nil, List.nil_append]
          have ec : cardsFrom (4 - 4) (Vbndao.allCards x) (ws.drop 2) = cardsFault x ws := rfl
          rw [ec]
          by_cases q3 : cardsFault x ws = (0, 0)
          · rw [if_pos q3, if_pos q3]
            dsimp only
            have ec : (x.seats.isEmpty = false ∧ ((ws.drop 2).map cardC).length ≠ ((x.seats.headD ⟨0, []⟩).cards).length) ↔ (x.seats.isEmpty = false ∧ ws.length - 2 ≠ sizeOfDeal x) := by
              rw [List.length_map, List.length_drop]
              exact Iff.rfl
            by_cases q4 : x.seats.isEmpty = false ∧ ws.length - 2 ≠ sizeOfDeal x
            · rw [if_pos (ec.mpr q4), if_pos q4, if_neg (ne_00 (by decide)), ex_er (by decide), ho]
            · rw [if_neg (fun k => q4 (ec.mp k)), if_neg q4, if_pos rfl, ex_ok]
          · rw [if_neg q3, if_neg q3]
            exact (if_neg q3).symm
      · rw [if_neg q1, if_neg q1]
        exact (if_neg q1).symm
  rw [if_neg (kw_f b7), name_none b1 b2 b3 b4 b5 b6 b7, if_pos rfl, ex_er (by decide)]
theorem toEx_ok {r : (Nat × Nat) × Deal} (h : r.1 = (0, 0)) : toEx r = .ok r.2 := if_pos h
theorem toEx_no {r : (Nat × Nat) × Deal} (h : ¬ r.1 = (0, 0)) : toEx r = .error ⟨r.1.1, r.1.2⟩ := if_neg h
theorem parse_lines : ∀ (ps : List (Nat × List Nat)) {x : Deal}, ParOk x → Vbndaa.parseLines Vbndao.noSeparators Vbndao.parseDealLine x ps = toEx (readM x ps)
  | [], x, _ => ex_ok.symm
  | p :: ps, x, o => by
    unfold Vbndaa.parseLines readM
    by_cases e : (toksAt p.1 p.2).isEmpty = true
    · have es : lineStep x p = ((0, 0), x) := if_pos e
      have e' : (Vbndaa.tokenizeWith Vbndao.noSeparators p.1 p.2).isEmpty = true := e
      rw [if_pos e', es, if_pos rfl]
      exact parse_lines ps o
    · have es : lineStep x p = takeLine x (toksAt p.1 p.2) (p.1 + p.2.length) := if_neg e
      have e' : ¬ (Vbndaa.tokenizeWith Vbndao.noSeparators p.1 p.2).isEmpty = true := e
      rw [if_neg e']
      have ec : Vbndaa.cursorOf Vbndao.noSeparators p.1 p.2 = ⟨toksAt p.1 p.2, p.1 + p.2.length⟩ := rfl
      rw [ec, parse_line o (fun k => e (List.isEmpty_iff.mpr k)), ← es]
      by_cases q : (lineStep x p).1 = (0, 0)
      · rw [toEx_ok q, if_pos q]
        exact parse_lines ps (step_par o)
      · rw [toEx_no q, if_neg q, toEx_no q]
theorem readM_par : ∀ (ps : List (Nat × List Nat)) {x : Deal}, ParOk x → ParOk (readM x ps).2
  | [], x, o => o
  | p :: ps, x, o => by
    unfold readM
    by_cases q : (lineStep x p).1 = (0, 0)
    · rw [if_pos q]; exact readM_par ps (step_par o)
    · rw [if_neg q]; exact step_par o
theorem parse_deal (t : List Nat) : Vbndao.parseDeal t = toEx (readD t) := by
  unfold Vbndao.parseDeal Vbndaa.parseText readD
  have ep : Vbndaa.splitAtByte 10 0 t = piecesAt 0 t := rfl
  rw [ep, parse_lines _ par_empty]
  have o := readM_par (piecesAt 0 t) par_empty
  generalize readM Vbndao.emptyDeal (piecesAt 0 t) = r at o ⊢
  by_cases q : r.1 = (0, 0)
  · rw [toEx_ok q, if_pos q]
    dsimp only
    have hz : ((r.2.seats.headD ⟨0, []⟩).cards).length = sizeOfDeal r.2 := rfl
    rw [hz]
    have hm := o.most
    unfold wholeFault
    by_cases h1 : r.2.seats.length < 2
    · rw [if_pos h1, if_pos h1]; exact (ex_er (by decide)).symm
    rw [if_neg h1, if_neg h1]
    by_cases h2 : r.2.seats.length > 2 ∧ sizeOfDeal r.2 > 3
    · have : Vbndao.maxHandSize r.2.seats.length < sizeOfDeal r.2 := by unfold Vbndao.maxHandSize; rw [if_neg (by omega)]; exact h2.2
      rw [if_pos this, if_pos h2]; exact (ex_er (by decide)).symm
    have : ¬ Vbndao.maxHandSize r.2.seats.length < sizeOfDeal r.2 := by
      unfold Vbndao.maxHandSize
      split
      · omega
      · intro k
        exact h2 ⟨by omega, k⟩
    rw [if_neg this, if_neg h2]
    by_cases h3 : optI r.2.firstLeader ≥ (r.2.seats.length : Int)
    · have : r.2.seats.length ≤ Vbndao.firstLeaderOf r.2 := by
        unfold Vbndao.firstLeaderOf
        cases hf : r.2.firstLeader with
        | none => rw [hf] at h3; have h3 : (-1 : Int) ≥ (r.2.seats.length : Int) := h3; omega
        | some n => rw [hf] at h3; have h3 : (n : Int) ≥ (r.2.seats.length : Int) := h3; show r.2.seats.length ≤ n; omega
      rw [if_pos this, if_pos h3]; exact (ex_er (by decide)).symm
    · have : ¬ r.2.seats.length ≤ Vbndao.firstLeaderOf r.2 := by
        unfold Vbndao.firstLeaderOf
        cases hf : r.2.firstLeader with
        | none => show ¬ r.2.seats.length ≤ 0; omega
        | some n => rw [hf] at h3; have h3 : ¬ (n : Int) ≥ (r.2.seats.length : Int) := h3; show ¬ r.2.seats.length ≤ n; omega
      rw [if_neg this, if_neg h3, ex_ok]
  · rw [toEx_no q, if_neg q, toEx_no q]
theorem read_ok {t : List Nat} (h : (readD t).1 = (0, 0)) : DealOk (readD t).2 := by
  unfold readD at h ⊢
  have o := readM_par (piecesAt 0 t) par_empty
  generalize readM Vbndao.emptyDeal (piecesAt 0 t) = r at o h ⊢
  by_cases q : r.1 = (0, 0)
  · rw [if_pos q] at h ⊢
    dsimp only at h ⊢
    unfold wholeFault at h
    by_cases h1 : r.2.seats.length < 2
    · rw [if_pos h1] at h; cases h
    rw [if_neg h1] at h
    by_cases h2 : r.2.seats.length > 2 ∧ sizeOfDeal r.2 > 3
    · rw [if_pos h2] at h; cases h
    rw [if_neg h2] at h
    by_cases h3 : optI r.2.firstLeader ≥ (r.2.seats.length : Int)
    · rw [if_pos h3] at h; cases h
    have hm := o.most
    refine ⟨by omega, o.n4, o.side, o.len, o.pos (fun k => h1 (by rw [k]; decide)), ⟨hm, ?_⟩, o.card, o.nd, ?_, o.trump, o.ranks, o.ranksNd, o.nums⟩
    · by_cases k : r.2.seats.length = 2
      · exact .inl k
      · exact .inr (by
          rcases Nat.lt_or_ge 3 (sizeOfDeal r.2) with j | j
          · exact absurd ⟨by omega, j⟩ h2
          · exact j)
    · unfold Vbndao.firstLeaderOf
      cases hf : r.2.firstLeader with
      | none => show 0 < _; omega
      | some n => rw [hf] at h3; have h3 : ¬ (n : Int) ≥ (r.2.seats.length : Int) := h3; show n < _; omega
  · rw [if_neg q] at h; exact absurd h q
end
end Fd

namespace Fd
open PySem PySem.Spec PyProof.Rows L2
open Vbndao (Deal Position)
section
variable {P : Program} {w : World} {K : PySem.W.Frag} {mg : Str → Option Value} {base : Heap}
/-! ### answers as lists of whole numbers -/
abbrev dZ (l : List Int) : List Dsc := l.map dI
theorem nats_dI (l : List Nat) : dNs l = dIs (Vbndao.toInts l) := by
  show dL (l.map dN) = dL ((l.map fun (n : Nat) => (n : Int)).map dI)
  rw [List.map_map]
  rfl
theorem nats_back {l : List Int} (h : ∀ z ∈ l, 0 ≤ z) : dIs l = dNs (Vbndao.toNats l) := by
  rw [nats_dI]
  unfold Vbndao.toInts Vbndao.toNats
  rw [List.map_map]
  have : (l.map ((fun (n : Nat) => (n : Int)) ∘ Int.toNat)) = l := by
    conv => rhs; rw [← List.map_id l]
    refine List.map_congr_left fun z hz => ?_
    have := h z hz
    show ((z.toNat : Nat) : Int) = z
    omega
  rw [this]
theorem evO_catZ {G : En} {W : Wd} {ta tb : TE} {l k : List Int} (ha : Ev ta G W (dIs l)) (hb : Ev tb G W (dIs k)) (hl : l.length + k.length ≤ 100000) : EvO (tOp rCat ta tb) G W (dZ (l ++ k)) := by
  have := evO_cat (ds := dZ l) (es := dZ k) ha hb (by rw [List.length_map, List.length_map]; exact szk hl)
  rw [show dZ (l ++ k) = dZ l ++ dZ k from List.map_append]
  exact this
def sp_listed (K : PySem.W.Frag) : Sp := spOwn (fun a : List Int => a.length ≤ 11000000) (fun a => [dIs a]) (fun a => dZ ((a.length : Int) :: a))
/-! listed -/
def N_listed : List Str := ["numbers"]
theorem sc_listed : FnScope ["numbers"] ["numbers"] (defScope s_listed) := ⟨rfl, rfl, rfl, by decide +kernel, rfl, by decide +kernel, by decide +kernel⟩
theorem nm_listed : nmB ["numbers"] (defScope s_listed) [0] [] ["len", "list"] = true := by decide +kernel
def t_listed (K : PySem.W.Frag) : TS := tRet (tOp rCat (tLst (tCons (tCB (cLen K) (tCons (tVar 0) (tNil))) (tNil))) (tCB (cList K) (tCons (tVar 0) (tNil))))
theorem dv_listed {X : Cx} (o0 : On fa X ["numbers"] (defScope s_listed)) (hf : ∀ x, X.fn x = true) : PSs X (defBody s_listed) (t_listed X.K) := by
  have n0 := nm_listed
  exact pss_one (ps_ret (pe_op op_cat (pe_lst (pa_cons (acb o0 n0 call_len_seq (by decide +kernel) (pa_cons (av o0 n0 0 (gm 0 rfl) rfl) (pa_nil)) (gm 0 rfl) f_len) (pa_nil))) (act o0 n0 call_list_of (by decide +kernel) (pa_cons (av o0 n0 0 (gm 0 rfl) rfl) (pa_nil)) (gm 1 rfl) f_list)))
theorem ev_listed (C : Ctx K mg) : ∀ a : List Int, a.length ≤ 11000000 → ∀ W, Rt (t_listed K) (envOf ["numbers"] [dIs a]) W (rO W (dZ ((a.length : Int) :: a))) := fun l h W =>
  rt_retO (EvO.to (evO_cat (ds := dZ [(l.length : Int)]) (es := dZ l) (EvO.ev (evO_lst (ea_cons (ev_lenM (f := dI) ev_var) ea_nil))) (EvO.ev (evO_list rfl ev_var)) (Nat.le_trans (show 1 + (dZ l).length ≤ 11000001 by rw [List.length_map]; omega) (by decide))) rfl)
theorem ok_listed {P : Program} {w : World} {K : PySem.W.Frag} {mg : Str → Option Value} {base : Heap} (C : Ctx K mg) : Ok P w K mg base 1 "listed" ["numbers"] (sp_listed K) :=
  ok_gen C 72 rfl rfl sc_listed fg_listed (fun _ _ _ _ _ _ hr o => dv_listed o (fun _ => rfl)) (fun _ _ _ _ _ _ us hl => match us, hl with | [_], _ => rfl) (len_own fun _ => rfl) fun _ _ _ _ h => reads_own (ev_listed C) h
theorem evO_listed {G : En} {W : Wd} {te : TE} {l : List Nat} (h : Ev te G W (dNs l)) (hl : l.length ≤ 90000) : EvO (tCall (sp_listed K) [] E0 (tCons te tNil)) G W (dZ (Vbndao.withLength l)) := by
  rw [nats_dI] at h
  have e : (Vbndao.toInts l).length = l.length := List.length_map ..
  have := evO_call (G := G) (W := W) (pre := fun a : List Int => a.length ≤ 11000000) (dom := fun a => [dIs a]) (cod := fun a => dZ ((a.length : Int) :: a)) (Vbndao.toInts l) (by rw [e]; omega) (ea_cons h ea_nil)
  rw [e] at this
  exact this
theorem evO_zero {G : En} {W : Wd} {te : TE} {l : List Int} (h : Ev te G W (dIs l)) (hl : l.length ≤ 90000) : EvO (tOp rCat (tLst (tCons (tC (.int 0)) tNil)) te) G W (dZ (0 :: l)) := evO_catZ (l := [0]) (EvO.ev (evO_lst (ea_cons ev_c ea_nil))) h (by show 1 + l.length ≤ _; omega)
theorem withLen (l : List Nat) : (Vbndao.withLength l).length = l.length + 1 := by
  show (Vbndao.toInts l).length + 1 = _
  unfold Vbndao.toInts
  rw [List.length_map]
def bothM (x : Deal) (g : Nat) : List Int := [0, (g : Int), (totalOf x : Int) - (g : Int)]
def sp_both_sides (K : PySem.W.Frag) : Sp := spOwn (fun a : Deal × Nat => DealOk a.1) (fun a => [dDeal K a.1, dN a.2]) (fun a => dZ (bothM a.1 a.2))
/-! both_sides -/
def N_both_sides : List Str := ["deal", "points"]
theorem sc_both_sides : FnScope ["deal", "points"] ["deal", "points"] (defScope s_both_sides) := ⟨rfl, rfl, rfl, by decide +kernel, rfl, by decide +kernel, by decide +kernel⟩
theorem nm_both_sides : nmB ["deal", "points"] (defScope s_both_sides) [1, 0] [] ["total_of"] = true := by decide +kernel
def t_both_sides (K : PySem.W.Frag) : TS := tRet (tLst (tCons (tC (.int 0)) (tCons (tVar 1) (tCons (tOp oSub (tCall (sp_total_of K) [] E0 (tCons (tVar 0) (tNil))) (tVar 1)) (tNil)))))
theorem dv_both_sides {X : Cx} (o0 : On fa X ["deal", "points"] (defScope s_both_sides)) (hf : ∀ x, X.fn x = true) (c_total_of : Cal X "total_of" (sp_total_of X.K)) : PSs X (defBody s_both_sides) (t_both_sides X.K) := by
  have n0 := nm_both_sides
  exact pss_one (ps_ret (pe_lst (pa_cons (pe_int) (pa_cons (av o0 n0 1 (gm 0 rfl) rfl) (pa_cons (pe_op op_sub (acall o0 n0 c_total_of (pa_cons (av o0 n0 0 (gm 1 rfl) rfl) (pa_nil)) (gm 0 rfl)) (av o0 n0 1 (gm 0 rfl) rfl)) (pa_nil))))))
theorem ev_both_sides (C : Ctx K mg) : ∀ a : Deal × Nat, DealOk a.1 → ∀ W, Rt (t_both_sides K) (envOf ["deal", "points"] [dDeal K a.1, dN a.2]) W (rO W (dZ (bothM a.1 a.2))) := fun ⟨x, g⟩ o W =>
  rt_retO (evO_lst (ea_cons ev_c (ea_cons ev_var (ea_cons (ev_I0 (ev_call x o (ea_cons ev_var ea_nil)) ev_var) ea_nil))))
theorem ok_both_sides {P : Program} {w : World} {K : PySem.W.Frag} {mg : Str → Option Value} {base : Heap} (C : Ctx K mg) : Ok P w K mg base 3 "both_sides" ["deal", "points"] (sp_both_sides K) :=
  ok_gen C 73 rfl rfl sc_both_sides fg_both_sides (fun _ _ _ _ _ _ hr o => dv_both_sides o (fun _ => rfl) ((ok_total_of C).cal hr (by decide))) (fun _ _ _ _ _ _ us hl => match us, hl with | [_, _], _ => rfl) (len_own fun _ => rfl) fun _ _ _ _ h => reads_own (ev_both_sides C) h
def posM (p : Position) : List Int := ((([0] ++ turnL p) ++ [(p.leader : Int)]) ++ Vbndao.withLength p.trick) ++ p.hands.flatMap Vbndao.withLength
def sp_told_position (K : PySem.W.Frag) : Sp := spOwn (fun a : Deal × Position => Good a.1 a.2) (fun a => [dPos K a.2]) (fun a => dZ (posM a.2))
/-! told_position -/
def N_told_position : List Str := ["here", "found", "hand"]
theorem sc_told_position : FnScope ["here", "found", "hand"] ["here"] (defScope s_told_position) := ⟨rfl, rfl, rfl, by decide +kernel, rfl, by decide +kernel, by decide +kernel⟩
theorem nm_told_position : nmB ["here", "found", "hand"] (defScope s_told_position) [0, 1, 2] [1, 2] ["turn_information", "listed"] = true := by decide +kernel
def t_told_position (K : PySem.W.Frag) : TS := tSeq (tAsg (tOp rCat (tOp rCat (tOp rCat (tLst (tCons (tC (.int 0)) (tNil))) (tCall (sp_turn_information K) [] E0 (tCons (tVar 0) (tNil)))) (tLst (tCons (tFld K (tVar 0) "leader") (tNil)))) (tCall (sp_listed K) [] E0 (tCons (tFld K (tVar 0) "trick") (tNil)))) (gName 1)) (tSeq (tFor (iList K (tFld K (tVar 0) "hands")) (gName 2) (tDrop (tBM K "list" rExtend (tVar 1) (tCons (tCall (sp_listed K) [] E0 (tCons (tVar 2) (tNil))) (tNil))))) (tRet (tVar 1)))
theorem dv_told_position {X : Cx} (o0 : On fa X ["here", "found", "hand"] (defScope s_told_position)) (hf : ∀ x, X.fn x = true) (c_turn_information : Cal X "turn_information" (sp_turn_information X.K)) (c_listed : Cal X "listed" (sp_listed X.K)) : PSs X (defBody s_told_position) (t_told_position X.K) := by
  have n0 := nm_told_position
  exact pss_cons (aset o0 n0 hf 1 (pe_op op_cat (pe_op op_cat (pe_op op_cat (pe_lst (pa_cons (pe_int) (pa_nil))) (acall o0 n0 c_turn_information (pa_cons (av o0 n0 0 (gm 0 rfl) rfl) (pa_nil)) (gm 0 rfl))) (pe_lst (pa_cons (pe_fld (av o0 n0 0 (gm 0 rfl) rfl) rfl) (pa_nil)))) (acall o0 n0 c_listed (pa_cons (pe_fld (av o0 n0 0 (gm 0 rfl) rfl) rfl) (pa_nil)) (gm 1 rfl))) (gm 0 rfl) rfl) (pss_cons (ps_for o0.nev o0.calm (pi_list (pe_fld (av o0 n0 0 (gm 0 rfl) rfl) rfl)) (ag o0 n0 hf 2 (gm 1 rfl) rfl) (pss_one (ps_expr (pe_bm PySem.F.plainAttrs_list PySem.F.slot_list_extend PySem.F.type_list_extend mt_extend (av o0 n0 1 (gm 1 rfl) rfl) (pa_cons (acall o0 n0 c_listed (pa_cons (av o0 n0 2 (gm 2 rfl) rfl) (pa_nil)) (gm 1 rfl)) (pa_nil)))))) (pss_one (ps_ret (av o0 n0 1 (gm 1 rfl) rfl))))
theorem hand_in {x : Deal} {p : Position} (g : Good x p) {h : List Nat} (hh : h ∈ p.hands) : h.length ≤ 4 := by
  obtain ⟨j, hj, rfl⟩ := List.getElem_of_mem hh
  have hn := g.hands
  obtain ⟨m, h1, _, _, h4⟩ := g.sizes
  obtain ⟨i, hi, ei⟩ := rot_onto (a := p.leader) (j := j) g.lead (by omega)
  have := h4 i hi
  rw [ei, List.getD_eq_getElem?_getD, List.getElem?_eq_getElem hj] at this
  change p.hands[j].length + _ = _ at this
  omega
theorem flat_len {x : Deal} {p : Position} (g : Good x p) : ∀ n, ((p.hands.take n).flatMap Vbndao.withLength).length ≤ 5 * n := by
  intro n
  induction n with
  | zero => simp
  | succ n ih =>
    cases e : p.hands[n]? with
    | none => rw [List.take_add_one, e]; simp only [Option.toList, List.append_nil]; omega
    | some h =>
      rw [take_get e, List.flatMap_append, List.length_append]
      have := hand_in g (List.mem_of_getElem? e)
      simp only [List.flatMap_cons, List.flatMap_nil, List.append_nil, withLen]
      omega
theorem ev_told_position (C : Ctx K mg) : ∀ a : Deal × Position, Good a.1 a.2 → ∀ W, Rt (t_told_position K) (envOf ["here", "found", "hand"] [dPos K a.2]) W (rO W (dZ (posM a.2))) := fun ⟨x, p⟩ g W => by
  dsimp only at g ⊢
  have ht := g.trick
  have hn := g.n4
  have hn2 := g.n2
  have hh := g.hands
  have hl : (Vbndao.withLength p.trick).length ≤ 5 := by rw [withLen]; omega
  have e3 : (turnL p).length = 3 := rfl
  unfold posM
  refine rt_seq (nx_setO (evO_catZ (EvO.ev (evO_catZ (EvO.ev (evO_catZ (l := [0]) (EvO.ev (evO_lst (ea_cons ev_c ea_nil))) (ev_call p ⟨by omega, by omega⟩ (ea_cons ev_var ea_nil)) (by show 1 + 3 ≤ _; omega))) (EvO.ev (evO_lst (ds := dZ [(p.leader : Int)]) (ea_cons (evp C (p := p) ev_var fn_Position_leader rfl) ea_nil))) (by show 4 + 1 ≤ _; omega))) (EvO.ev (evO_listed (evp C (p := p) ev_var fn_Position_trick rfl) (by omega))) (by show 5 + _ ≤ _; omega))) ?_
  have hA : (([0] ++ turnL p ++ [(p.leader : Int)]) ++ Vbndao.withLength p.trick).length ≤ 10 := by rw [List.length_append]; show 5 + _ ≤ _; omega
  generalize ([0] ++ turnL p ++ [(p.leader : Int)]) ++ Vbndao.withLength p.trick = A at hA ⊢
  refine rt_seq (nx_from ?_ (nx_forM p.hands dNs (fun i => [some (.pl (dPos K p)), some (.ow (ownL W (dZ (A ++ (p.hands.take i).flatMap Vbndao.withLength)))), none]) (fun h G => G.set 2 (some (.pl (dNs h)))) [2] (ei_list (evp C ev_var fn_Position_hands rfl)) (fun _ _ => tg_name) fun i h hi => ⟨_, nx_ext (i := 1) (es := dZ (Vbndao.withLength h)) rfl rfl (EvO.ev (evO_listed ev_var (by have := hand_in g (List.mem_of_getElem? hi); omega))) ?_, ?_⟩)) ?_
  · rw [List.take_zero, List.flatMap_nil, List.append_nil]
    rfl
  · rw [List.length_map, List.length_map, List.length_append, withLen]
    have h1 := flat_len g i
    have h2 := hand_in g (List.mem_of_getElem? hi)
    have h3 := (List.getElem?_eq_some_iff.mp hi).1
    exact szk (by omega)
  · rw [take_get hi, List.flatMap_append, ← List.append_assoc]
    simp only [List.flatMap_cons, List.flatMap_nil, List.append_nil]
    rw [show dZ (A ++ (p.hands.take i).flatMap Vbndao.withLength ++ Vbndao.withLength h) = dZ (A ++ (p.hands.take i).flatMap Vbndao.withLength) ++ dZ (Vbndao.withLength h) from List.map_append]
    rfl
  · rw [List.take_length]
    exact rt_retV rfl
theorem ok_told_position {P : Program} {w : World} {K : PySem.W.Frag} {mg : Str → Option Value} {base : Heap} (C : Ctx K mg) : Ok P w K mg base 4 "told_position" ["here"] (sp_told_position K) :=
  ok_gen C 78 rfl rfl sc_told_position fg_told_position (fun _ _ _ _ _ _ hr o => dv_told_position o (fun _ => rfl) ((ok_turn_information C).cal hr (by decide)) ((ok_listed C).cal hr (by decide))) (fun _ _ _ _ _ _ us hl => match us, hl with | [_], _ => rfl) (len_own fun _ => rfl) fun _ _ _ _ h => reads_own (ev_told_position C) h
def valRow (x : Deal) (p : Position) (c : Nat) : List Int := [(c : Int), (guarP x (Vbndao.playCard x p c) : Int)]
def valsM (x : Deal) (p : Position) : List Int := [0, ((Vbndao.legalCards x p).length : Int)] ++ (Vbndao.legalCards x p).flatMap (valRow x p)
def sp_told_values (K : PySem.W.Frag) : Sp := spOwn (fun a : Deal × Position => Good a.1 a.2) (fun a => [dDeal K a.1, dPos K a.2]) (fun a => dZ (valsM a.1 a.2))
/-! told_values -/
def N_told_values : List Str := ["deal", "here", "legal", "found", "card", "points"]
theorem sc_told_values : FnScope ["deal", "here", "legal", "found", "card", "points"] ["deal", "here"] (defScope s_told_values) := ⟨rfl, rfl, rfl, by decide +kernel, rfl, by decide +kernel, by decide +kernel⟩
theorem nm_told_values : nmB ["deal", "here", "legal", "found", "card", "points"] (defScope s_told_values) [0, 1, 2, 3, 4, 5] [2, 3, 4, 5] ["legal_cards", "len", "values_after", "zip"] = true := by decide +kernel
def t_told_values (K : PySem.W.Frag) (q_values_after : Sp) : TS := tSeq (tAsg (tCall (sp_legal_cards K) [] E0 (tCons (tVar 0) (tCons (tVar 1) (tNil)))) (gName 2)) (tSeq (tAsg (tLst (tCons (tC (.int 0)) (tCons (tCB (cLen K) (tCons (tVar 2) (tNil))) (tNil)))) (gName 3)) (tSeq (tFor (iZip K (tCons (tVar 2) (tCons (tCall q_values_after [] E0 (tCons (tVar 0) (tCons (tVar 1) (tNil)))) (tNil)))) (gTup K 2 (gCons (gName 4) (gCons (gName 5) (gNil)))) (tDrop (tBM K "list" rExtend (tVar 3) (tCons (tLst (tCons (tVar 4) (tCons (tVar 5) (tNil)))) (tNil))))) (tRet (tVar 3))))
theorem dv_told_values {X : Cx} {q_values_after : Sp} (o0 : On fa X ["deal", "here", "legal", "found", "card", "points"] (defScope s_told_values)) (hf : ∀ x, X.fn x = true) (c_legal_cards : Cal X "legal_cards" (sp_legal_cards X.K)) (c_values_after : Cal X "values_after" q_values_after) : PSs X (defBody s_told_values) (t_told_values X.K q_values_after) := by
  have n0 := nm_told_values
  exact pss_cons (aset o0 n0 hf 2 (acall o0 n0 c_legal_cards (pa_cons (av o0 n0 0 (gm 0 rfl) rfl) (pa_cons (av o0 n0 1 (gm 1 rfl) rfl) (pa_nil))) (gm 0 rfl)) (gm 0 rfl) rfl) (pss_cons (aset o0 n0 hf 3 (pe_lst (pa_cons (pe_int) (pa_cons (acb o0 n0 call_len_seq (by decide +kernel) (pa_cons (av o0 n0 2 (gm 2 rfl) rfl) (pa_nil)) (gm 1 rfl) f_len) (pa_nil)))) (gm 1 rfl) rfl) (pss_cons (ps_for o0.nev o0.calm (pi_zip (o0.gl n0 (gm 3 rfl)) (o0.gb.free f_zip) (pa_cons (av o0 n0 2 (gm 2 rfl) rfl) (pa_cons (acall o0 n0 c_values_after (pa_cons (av o0 n0 0 (gm 0 rfl) rfl) (pa_cons (av o0 n0 1 (gm 1 rfl) rfl) (pa_nil))) (gm 2 rfl)) (pa_nil)))) (pg_tup o0.calm (pgs_cons (ag o0 n0 hf 4 (gm 2 rfl) rfl) (pgs_cons (ag o0 n0 hf 5 (gm 3 rfl) rfl) (pgs_nil)))) (pss_one (ps_expr (pe_bm PySem.F.plainAttrs_list PySem.F.slot_list_extend PySem.F.type_list_extend mt_extend (av o0 n0 3 (gm 3 rfl) rfl) (pa_cons (pe_lst (pa_cons (av o0 n0 4 (gm 4 rfl) rfl) (pa_cons (av o0 n0 5 (gm 5 rfl) rfl) (pa_nil)))) (pa_nil)))))) (pss_one (ps_ret (av o0 n0 3 (gm 3 rfl) rfl)))))
theorem ev_told_values (C : Ctx K mg) : ∀ a : Deal × Position, Good a.1 a.2 → ∀ W, Rt (t_told_values K (sp_values_after K)) (envOf ["deal", "here", "legal", "found", "card", "points"] [dDeal K a.1, dPos K a.2]) W (rO W (dZ (valsM a.1 a.2))) := fun ⟨x, p⟩ g W => by
  dsimp only at g ⊢
  have h4 := legal_le g
  unfold valsM
  refine rt_seq (nx_set (ev_call (x, p) g (ea_cons ev_var (ea_cons ev_var ea_nil)))) ?_
  refine rt_seq (nx_setO (ds := dZ [0, ((Vbndao.legalCards x p).length : Int)]) (evO_lst (ea_cons ev_c (ea_cons (ev_lenM ev_var) ea_nil)))) ?_
  generalize hA : ([0, ((Vbndao.legalCards x p).length : Int)] : List Int) = A
  have hA2 : A.length = 2 := by rw [← hA]; rfl
  have hfl : ∀ i, (((Vbndao.legalCards x p).take i).flatMap (valRow x p)).length ≤ 2 * i := by
    intro i
    have : ∀ l : List Nat, (l.flatMap (valRow x p)).length = 2 * l.length := by
      intro l
      induction l with
      | nil => rfl
      | cons a r ih => rw [List.flatMap_cons, List.length_append, ih, List.length_cons]; show 2 + _ = _; omega
    rw [this, List.length_take]
    omega
  refine rt_seq (nx_from ?_ (nx_forM (Vbndao.legalCards x p) (fun c => dT K [dN c, dN (guarP x (Vbndao.playCard x p c))]) (fun i => [some (.pl (dDeal K x)), some (.pl (dPos K p)), some (.pl (dNs (Vbndao.legalCards x p))), some (.ow (ownL W (dZ (A ++ ((Vbndao.legalCards x p).take i).flatMap (valRow x p))))), none, none])
    (fun c G => (G.set 4 (some (.pl (dN c)))).set 5 (some (.pl (dN (guarP x (Vbndao.playCard x p c)))))) [4, 5] ?_ (fun _ _ => tg_tup (n := 2) (tgs_cons tg_name (tgs_cons tg_name tgs_nil))) fun i c hi => ⟨_, nx_ext (i := 3) (es := dZ (valRow x p c)) rfl rfl (EvO.ev (evO_lst (ea_cons ev_var (ea_cons ev_var ea_nil)))) ?_, ?_⟩)) ?_
  · rw [List.take_zero, List.flatMap_nil, List.append_nil]
    rfl
  · exact ei_zipM (f := dN) (g := fun c => dN (guarP x (Vbndao.playCard x p c))) ev_var (Ev.to (ev_vals g (ea_cons ev_var (ea_cons ev_var ea_nil))) (by unfold valuesP; exact dL_mm))
  · rw [List.length_map, List.length_append, hA2]
    have h1 := hfl i
    have h3 := (List.getElem?_eq_some_iff.mp hi).1
    exact szk (by show 2 + _ + 2 ≤ _; omega)
  · rw [take_get hi, List.flatMap_append, ← List.append_assoc]
    simp only [List.flatMap_cons, List.flatMap_nil, List.append_nil]
    rw [show dZ (A ++ (((Vbndao.legalCards x p).take i).flatMap (valRow x p)) ++ valRow x p c) = dZ (A ++ (((Vbndao.legalCards x p).take i).flatMap (valRow x p))) ++ dZ (valRow x p c) from List.map_append]
    rfl
  · rw [List.take_length]
    exact rt_retV rfl
theorem ok_told_values {P : Program} {w : World} {K : PySem.W.Frag} {mg : Str → Option Value} {base : Heap} (C : Ctx K mg) : Ok P w K mg base 32 "told_values" ["deal", "here"] (sp_told_values K) :=
  ok_gen C 79 rfl rfl sc_told_values fg_told_values (fun _ _ _ _ _ _ hr o => dv_told_values o (fun _ => rfl) ((ok_legal_cards C).cal hr (by decide)) ((ok_values_after C).cal hr (by decide))) (fun _ _ _ _ _ _ us hl => match us, hl with | [_, _], _ => rfl) (len_own fun _ => rfl) fun _ _ _ _ h => reads_own (ev_told_values C) h
def claimM (x : Deal) (p : Position) (s : Nat) (n : Int) : List Int := [0, if n ≤ (if s = 0 then (guarP x p : Int) else (totalOf x : Int) - (guarP x p : Int)) then 1 else 0]
def sp_told_claim (K : PySem.W.Frag) : Sp := spOwn (fun a : Deal × Position × Nat × Int => DealOk a.1 ∧ Good a.1 a.2.1 ∧ a.2.2.1 ≤ 1) (fun a => [dDeal K a.1, dPos K a.2.1, dN a.2.2.1, dI a.2.2.2]) (fun a => dZ (claimM a.1 a.2.1 a.2.2.1 a.2.2.2))
/-! told_claim -/
def N_told_claim : List Str := ["deal", "here", "side", "points", "sure"]
theorem sc_told_claim : FnScope ["deal", "here", "side", "points", "sure"] ["deal", "here", "side", "points"] (defScope s_told_claim) := ⟨rfl, rfl, rfl, by decide +kernel, rfl, by decide +kernel, by decide +kernel⟩
theorem nm_told_claim : nmB ["deal", "here", "side", "points", "sure"] (defScope s_told_claim) [0, 1, 2, 4, 3] [4] ["guaranteed", "both_sides", "int"] = true := by decide +kernel
def t_told_claim (K : PySem.W.Frag) (q_guaranteed : Sp) : TS := tSeq (tAsg (tOp (rIxL K) (tCall (sp_both_sides K) [] E0 (tCons (tVar 0) (tCons (tCall q_guaranteed [] E0 (tCons (tVar 0) (tCons (tVar 1) (tNil)))) (tNil)))) (tOp oAdd (tC (.int 1)) (tVar 2))) (gName 4)) (tRet (tLst (tCons (tC (.int 0)) (tCons (tCB (cInt) (tCons (tOp oGe (tVar 4) (tVar 3)) (tNil))) (tNil)))))
theorem dv_told_claim {X : Cx} {q_guaranteed : Sp} (o0 : On fa X ["deal", "here", "side", "points", "sure"] (defScope s_told_claim)) (hf : ∀ x, X.fn x = true) (c_guaranteed : Cal X "guaranteed" q_guaranteed) (c_both_sides : Cal X "both_sides" (sp_both_sides X.K)) : PSs X (defBody s_told_claim) (t_told_claim X.K q_guaranteed) := by
  have n0 := nm_told_claim
  exact pss_cons (aset o0 n0 hf 4 (pe_ix ix_list (acall o0 n0 c_both_sides (pa_cons (av o0 n0 0 (gm 0 rfl) rfl) (pa_cons (acall o0 n0 c_guaranteed (pa_cons (av o0 n0 0 (gm 0 rfl) rfl) (pa_cons (av o0 n0 1 (gm 1 rfl) rfl) (pa_nil))) (gm 0 rfl)) (pa_nil))) (gm 1 rfl)) (pe_op op_add (pe_int) (av o0 n0 2 (gm 2 rfl) rfl)) (fun _ _ => rfl)) (gm 0 rfl) rfl) (pss_one (ps_ret (pe_lst (pa_cons (pe_int) (pa_cons (act o0 n0 call_int1 (by decide +kernel) (pa_cons (pe_cmpR op_ge (av o0 n0 4 (gm 3 rfl) rfl) (av o0 n0 3 (gm 4 rfl) rfl) (nomark _)) (pa_nil)) (gm 2 rfl) f_int) (pa_nil))))))
theorem ev_told_claim (C : Ctx K mg) : ∀ a : Deal × Position × Nat × Int, (DealOk a.1 ∧ Good a.1 a.2.1 ∧ a.2.2.1 ≤ 1) → ∀ W, Rt (t_told_claim K (sp_guaranteed K)) (envOf ["deal", "here", "side", "points", "sure"] [dDeal K a.1, dPos K a.2.1, dN a.2.2.1, dI a.2.2.2]) W (rO W (dZ (claimM a.1 a.2.1 a.2.2.1 a.2.2.2))) := fun ⟨x, p, s, n⟩ ⟨o, g, hs⟩ W => by
  dsimp only at o g hs ⊢
  refine rt_seq (nx_set (d := dI (if s = 0 then (guarP x p : Int) else (totalOf x : Int) - (guarP x p : Int))) (ev_ixL (j := 1 + s) (ds := dZ (bothM x (guarP x p))) (EvO.ev (evO_call (x, guarP x p) o (ea_cons ev_var (ea_cons (ev_guar g (ea_cons ev_var (ea_cons ev_var ea_nil))) ea_nil)))) (ev_addN (m := 1) ev_c ev_var) ?_)) ?_
  · match s, hs with
    | 0, _ => rfl
    | 1, _ => rfl
  · refine rt_retO (evO_lst (ea_cons ev_c (ea_cons (Ev.to (ev_intB (ev_I0 ev_var ev_var)) ?_) ea_nil)))
    by_cases k : n ≤ (if s = 0 then (guarP x p : Int) else (totalOf x : Int) - (guarP x p : Int))
    · rw [if_pos k, decide_eq_true k]; rfl
    · rw [if_neg k, decide_eq_false k]; rfl
theorem ok_told_claim {P : Program} {w : World} {K : PySem.W.Frag} {mg : Str → Option Value} {base : Heap} (C : Ctx K mg) : Ok P w K mg base 31 "told_claim" ["deal", "here", "side", "points"] (sp_told_claim K) :=
  ok_gen C 80 rfl rfl sc_told_claim fg_told_claim (fun _ _ _ _ _ _ hr o => dv_told_claim o (fun _ => rfl) ((ok_guaranteed C).cal hr (by decide)) ((ok_both_sides C).cal hr (by decide))) (fun _ _ _ _ _ _ us hl => match us, hl with | [_, _, _, _], _ => rfl) (len_own fun _ => rfl) fun _ _ _ _ h => reads_own (ev_told_claim C) h
def leadM (x : Deal) (p : Position) : List Int := if p.trick.isEmpty = false then [-5] else 0 :: ((List.range x.seats.length).map fun i => (guarP x (ledAt p i) : Int))
def sp_told_leaders (K : PySem.W.Frag) : Sp := spOwn (fun a : Deal × Position => Good a.1 a.2) (fun a => [dDeal K a.1, dPos K a.2]) (fun a => dZ (leadM a.1 a.2))
/-! told_leaders -/
def N_told_leaders : List Str := ["deal", "here"]
theorem sc_told_leaders : FnScope ["deal", "here"] ["deal", "here"] (defScope s_told_leaders) := ⟨rfl, rfl, rfl, by decide +kernel, rfl, by decide +kernel, by decide +kernel⟩
theorem nm_told_leaders : nmB ["deal", "here"] (defScope s_told_leaders) [1, 0] [] ["TRICK_STARTED", "led_values"] = true := by decide +kernel
def t_told_leaders (K : PySem.W.Frag) : TS := tSeq (tIfS (tTest (tOp (rNeD K) (tFld K (tVar 1) "trick") (tLst (tNil)))) (tRet (tLst (tCons (tC (.int (-5))) (tNil)))) (tNext)) (tRet (tOp rCat (tLst (tCons (tC (.int 0)) (tNil))) (tCall (sp_led_values K) [] E0 (tCons (tVar 0) (tCons (tVar 1) (tNil))))))
theorem dv_told_leaders {X : Cx} (o0 : On fa X ["deal", "here"] (defScope s_told_leaders)) (hf : ∀ x, X.fn x = true) (c_led_values : Cal X "led_values" (sp_led_values X.K)) : PSs X (defBody s_told_leaders) (t_told_leaders X.K) := by
  have n0 := nm_told_leaders
  exact pss_cons (ps_if (pt_cmpR (op_neD o0.hu) (pe_fld (av o0 n0 1 (gm 0 rfl) rfl) rfl) (pe_lst (pa_nil)) (nomark _)) (pss_one (ps_ret (pe_lst (pa_cons (agi o0 n0 (gm 0 rfl) f_TRICK_STARTED) (pa_nil))))) (pss_nil)) (pss_one (ps_ret (pe_op op_cat (pe_lst (pa_cons (pe_int) (pa_nil))) (acall o0 n0 c_led_values (pa_cons (av o0 n0 0 (gm 1 rfl) rfl) (pa_cons (av o0 n0 1 (gm 0 rfl) rfl) (pa_nil))) (gm 1 rfl)))))
theorem ev_told_leaders (C : Ctx K mg) : ∀ a : Deal × Position, Good a.1 a.2 → ∀ W, Rt (t_told_leaders K) (envOf ["deal", "here"] [dDeal K a.1, dPos K a.2]) W (rO W (dZ (leadM a.1 a.2))) := fun ⟨x, p⟩ g W => by
  dsimp only at g ⊢
  have hn := g.n4
  unfold leadM
  refine rt_ifR (et_test (ev_noNil (evp C (p := p) ev_var fn_Position_trick rfl))) (fun e => ?_) fun e => ?_
  · rw [if_pos (by simpa using e)]
    exact rt_retO (evO_lst (ea_cons ev_c ea_nil))
  · have e2 : p.trick.isEmpty = true := by simpa using e
    rw [if_neg (by rw [e2]; decide)]
    refine rt_retO (evO_zero (Ev.to (EvO.ev (evO_call (x, p) ⟨g, List.isEmpty_iff.mp e2⟩ (ea_cons ev_var (ea_cons ev_var ea_nil)))) ?_) (by rw [List.length_map, List.length_range]; omega))
    rw [List.map_map]
    show _ = dL (List.map dI (List.map _ _))
    rw [List.map_map]
    rfl
theorem ok_told_leaders {P : Program} {w : World} {K : PySem.W.Frag} {mg : Str → Option Value} {base : Heap} (C : Ctx K mg) : Ok P w K mg base 32 "told_leaders" ["deal", "here"] (sp_told_leaders K) :=
  ok_gen C 81 rfl rfl sc_told_leaders fg_told_leaders (fun _ _ _ _ _ _ hr o => dv_told_leaders o (fun _ => rfl) ((ok_led_values C).cal hr (by decide))) (fun _ _ _ _ _ _ us hl => match us, hl with | [_, _], _ => rfl) (len_own fun _ => rfl) fun _ _ _ _ h => reads_own (ev_told_leaders C) h
def exM (x : Deal) (c d : Nat) : List Int := if (!(Vbndao.allCards x).contains c || !(Vbndao.allCards x).contains d) = true then [-4] else bothM x (guarP x (Vbndao.initialPosition (Vbndao.exchangeCards x c d)))
def sp_told_exchange (K : PySem.W.Frag) : Sp := spOwn (fun a : Deal × Nat × Nat => DealOk a.1) (fun a => [dDeal K a.1, dN a.2.1, dN a.2.2]) (fun a => dZ (exM a.1 a.2.1 a.2.2))
/-! told_exchange -/
def N_told_exchange : List Str := ["deal", "first", "second", "cards"]
theorem sc_told_exchange : FnScope ["deal", "first", "second", "cards"] ["deal", "first", "second"] (defScope s_told_exchange) := ⟨rfl, rfl, rfl, by decide +kernel, rfl, by decide +kernel, by decide +kernel⟩
theorem nm_told_exchange : nmB ["deal", "first", "second", "cards"] (defScope s_told_exchange) [0, 1, 3, 2] [3] ["cards_on", "NOT_LEGAL", "exchanged_value", "both_sides"] = true := by decide +kernel
def t_told_exchange (K : PySem.W.Frag) : TS := tSeq (tAsg (tCall (sp_cards_on K) [] E0 (tCons (tFld K (tVar 0) "sheet") (tNil))) (gName 3)) (tSeq (tIfS (tOr (tTest (tOp (rIn K true) (tVar 1) (tVar 3))) (tTest (tOp (rIn K true) (tVar 2) (tVar 3)))) (tRet (tLst (tCons (tC (.int (-4))) (tNil)))) (tNext)) (tRet (tCall (sp_both_sides K) [] E0 (tCons (tVar 0) (tCons (tCall (sp_exchanged_value K) [] E0 (tCons (tVar 0) (tCons (tVar 1) (tCons (tVar 2) (tNil))))) (tNil))))))
theorem dv_told_exchange {X : Cx} (o0 : On fa X ["deal", "first", "second", "cards"] (defScope s_told_exchange)) (hf : ∀ x, X.fn x = true) (c_cards_on : Cal X "cards_on" (sp_cards_on X.K)) (c_exchanged_value : Cal X "exchanged_value" (sp_exchanged_value X.K)) (c_both_sides : Cal X "both_sides" (sp_both_sides X.K)) : PSs X (defBody s_told_exchange) (t_told_exchange X.K) := by
  have n0 := nm_told_exchange
  exact pss_cons (aset o0 n0 hf 3 (acall o0 n0 c_cards_on (pa_cons (pe_fld (av o0 n0 0 (gm 0 rfl) rfl) rfl) (pa_nil)) (gm 0 rfl)) (gm 0 rfl) rfl) (pss_cons (ps_if (PW.pt (pw_or (pt_cmpR op_notIn_seq (av o0 n0 1 (gm 1 rfl) rfl) (av o0 n0 3 (gm 2 rfl) rfl) (by with_unfolding_all rfl)) (pw_or1 (pt_cmpR op_notIn_seq (av o0 n0 2 (gm 3 rfl) rfl) (av o0 n0 3 (gm 2 rfl) rfl) (by with_unfolding_all rfl))))) (pss_one (ps_ret (pe_lst (pa_cons (agi o0 n0 (gm 1 rfl) f_NOT_LEGAL) (pa_nil))))) (pss_nil)) (pss_one (ps_ret (acall o0 n0 c_both_sides (pa_cons (av o0 n0 0 (gm 0 rfl) rfl) (pa_cons (acall o0 n0 c_exchanged_value (pa_cons (av o0 n0 0 (gm 0 rfl) rfl) (pa_cons (av o0 n0 1 (gm 1 rfl) rfl) (pa_cons (av o0 n0 2 (gm 3 rfl) rfl) (pa_nil)))) (gm 2 rfl)) (pa_nil))) (gm 3 rfl)))))
theorem deal_cards {x : Deal} (o : DealOk x) : (Vbndao.allCards x).length ≤ 64 := nodup_lt 64 o.nd fun c hc => by
  have := (o.card c hc).2.2
  omega
theorem ev_told_exchange (C : Ctx K mg) : ∀ a : Deal × Nat × Nat, DealOk a.1 → ∀ W, Rt (t_told_exchange K) (envOf ["deal", "first", "second", "cards"] [dDeal K a.1, dN a.2.1, dN a.2.2]) W (rO W (dZ (exM a.1 a.2.1 a.2.2))) := fun ⟨x, c, d⟩ o W => by
  dsimp only at o ⊢
  have hc := deal_cards o
  unfold exM
  refine rt_seq (nx_set (d := dNs (Vbndao.allCards x)) (EvO.ev (evO_call x (by show (Vbndao.allCards x).length ≤ 100000; omega) (ea_cons (evd C ev_var fn_Deal_sheet rfl) ea_nil)))) ?_
  refine rt_ifR (et_or (et_test (ev_niM ev_var ev_var)) fun _ => et_test (ev_niM ev_var ev_var)) (fun e => ?_) fun e => ?_
  · rw [if_pos e]
    exact rt_retO (evO_lst (ea_cons ev_c ea_nil))
  · rw [if_neg (by rw [e]; decide)]
    rw [Bool.or_eq_false_iff, Bool.not_eq_false', Bool.not_eq_false'] at e
    exact rt_retO (evO_call (x, guarP x (Vbndao.initialPosition (Vbndao.exchangeCards x c d))) o (ea_cons ev_var (ea_cons (ev_call (x, c, d) ⟨o, List.contains_iff_mem.mp e.1, List.contains_iff_mem.mp e.2⟩ (ea_cons ev_var (ea_cons ev_var (ea_cons ev_var ea_nil)))) ea_nil)))
theorem ok_told_exchange {P : Program} {w : World} {K : PySem.W.Frag} {mg : Str → Option Value} {base : Heap} (C : Ctx K mg) : Ok P w K mg base 32 "told_exchange" ["deal", "first", "second"] (sp_told_exchange K) :=
  ok_gen C 82 rfl rfl sc_told_exchange fg_told_exchange (fun _ _ _ _ _ _ hr o => dv_told_exchange o (fun _ => rfl) ((ok_cards_on C).cal hr (by decide)) ((ok_exchanged_value C).cal hr (by decide)) ((ok_both_sides C).cal hr (by decide))) (fun _ _ _ _ _ _ us hl => match us, hl with | [_, _, _], _ => rfl) (len_own fun _ => rfl) fun _ _ _ _ h => reads_own (ev_told_exchange C) h
def planM (x : Deal) (p : Position) (s : Nat) (l : List Nat) : List Int := [0, (planP x s l p : Int)] ++ Vbndao.withLength (planL x p s l)
def sp_told_plan (K : PySem.W.Frag) : Sp := spOwn (fun a : APlan => Good a.1 a.2.1 ∧ a.2.2.1 ≤ 1) (domPlan K) (fun a => dZ (planM a.1 a.2.1 a.2.2.1 a.2.2.2))
/-! told_plan -/
def N_told_plan : List Str := ["deal", "here", "side", "plan"]
theorem sc_told_plan : FnScope ["deal", "here", "side", "plan"] ["deal", "here", "side", "plan"] (defScope s_told_plan) := ⟨rfl, rfl, rfl, by decide +kernel, rfl, by decide +kernel, by decide +kernel⟩
theorem nm_told_plan : nmB ["deal", "here", "side", "plan"] (defScope s_told_plan) [0, 1, 2, 3] [] ["plan_value", "plan_line", "listed"] = true := by decide +kernel
def t_told_plan (K : PySem.W.Frag) (q_plan_value : Sp) : TS := tRet (tOp rCat (tLst (tCons (tC (.int 0)) (tCons (tCall q_plan_value [] E0 (tCons (tVar 0) (tCons (tVar 1) (tCons (tVar 2) (tCons (tVar 3) (tNil)))))) (tNil)))) (tCall (sp_listed K) [] E0 (tCons (tCall (sp_plan_line K) [] E0 (tCons (tVar 0) (tCons (tVar 1) (tCons (tVar 2) (tCons (tVar 3) (tNil)))))) (tNil))))
theorem dv_told_plan {X : Cx} {q_plan_value : Sp} (o0 : On fa X ["deal", "here", "side", "plan"] (defScope s_told_plan)) (hf : ∀ x, X.fn x = true) (c_plan_value : Cal X "plan_value" q_plan_value) (c_plan_line : Cal X "plan_line" (sp_plan_line X.K)) (c_listed : Cal X "listed" (sp_listed X.K)) : PSs X (defBody s_told_plan) (t_told_plan X.K q_plan_value) := by
  have n0 := nm_told_plan
  exact pss_one (ps_ret (pe_op op_cat (pe_lst (pa_cons (pe_int) (pa_cons (acall o0 n0 c_plan_value (pa_cons (av o0 n0 0 (gm 0 rfl) rfl) (pa_cons (av o0 n0 1 (gm 1 rfl) rfl) (pa_cons (av o0 n0 2 (gm 2 rfl) rfl) (pa_cons (av o0 n0 3 (gm 3 rfl) rfl) (pa_nil))))) (gm 0 rfl)) (pa_nil)))) (acall o0 n0 c_listed (pa_cons (acall o0 n0 c_plan_line (pa_cons (av o0 n0 0 (gm 0 rfl) rfl) (pa_cons (av o0 n0 1 (gm 1 rfl) rfl) (pa_cons (av o0 n0 2 (gm 2 rfl) rfl) (pa_cons (av o0 n0 3 (gm 3 rfl) rfl) (pa_nil))))) (gm 1 rfl)) (pa_nil)) (gm 2 rfl))))
theorem ev_told_plan (C : Ctx K mg) : ∀ a : APlan, (Good a.1 a.2.1 ∧ a.2.2.1 ≤ 1) → ∀ W, Rt (t_told_plan K (sp_plan_value K)) (envOf ["deal", "here", "side", "plan"] (domPlan K a)) W (rO W (dZ (planM a.1 a.2.1 a.2.2.1 a.2.2.2))) := fun ⟨x, p, s, l⟩ ⟨g, hs⟩ W => by
  dsimp only at g hs ⊢
  have hl := left_le g
  have hp : (planL x p s l).length ≤ 12 := by unfold planL; rw [List.length_map, List.length_range]; exact hl
  refine rt_retO (evO_catZ (l := [0, (planP x s l p : Int)]) (EvO.ev (evO_lst (ea_cons ev_c (ea_cons (ev_planV g hs (ea_cons ev_var (ea_cons ev_var (ea_cons ev_var (ea_cons ev_var ea_nil))))) ea_nil)))) (EvO.ev (evO_listed (ev_call (x, p, s, l) ⟨g, hs⟩ (ea_cons ev_var (ea_cons ev_var (ea_cons ev_var (ea_cons ev_var ea_nil))))) (by omega))) (by rw [withLen]; show 2 + _ ≤ _; omega))
theorem ok_told_plan {P : Program} {w : World} {K : PySem.W.Frag} {mg : Str → Option Value} {base : Heap} (C : Ctx K mg) : Ok P w K mg base 33 "told_plan" ["deal", "here", "side", "plan"] (sp_told_plan K) :=
  ok_gen C 84 rfl rfl sc_told_plan fg_told_plan (fun _ _ _ _ _ _ hr o => dv_told_plan o (fun _ => rfl) ((ok_plan_value C).cal hr (by decide)) ((ok_plan_line C).cal hr (by decide)) ((ok_listed C).cal hr (by decide))) (fun _ _ _ _ _ _ us hl => match us, hl with | [_, _, _, _], _ => rfl) (len_own fun _ => rfl) fun _ _ _ _ h => reads_own (ev_told_plan C) h
def agM (x : Deal) (p : Position) (s : Nat) (l : List Nat) : List Int := [0, ((posA x s l (Vbndao.cardsToPlay p) (p, 0)).1.scores.1 : Int), ((posA x s l (Vbndao.cardsToPlay p) (p, 0)).1.scores.2 : Int)]
def sp_told_against (K : PySem.W.Frag) : Sp := spOwn (fun a : APlan => Good a.1 a.2.1) (domPlan K) (fun a => dZ (agM a.1 a.2.1 a.2.2.1 a.2.2.2))
/-! told_against -/
def N_told_against : List Str := ["deal", "here", "side", "choices", "points"]
theorem sc_told_against : FnScope ["deal", "here", "side", "choices", "points"] ["deal", "here", "side", "choices"] (defScope s_told_against) := ⟨rfl, rfl, rfl, by decide +kernel, rfl, by decide +kernel, by decide +kernel⟩
theorem nm_told_against : nmB ["deal", "here", "side", "choices", "points"] (defScope s_told_against) [0, 1, 2, 3, 4] [4] ["points_against"] = true := by decide +kernel
def t_told_against (K : PySem.W.Frag) : TS := tSeq (tAsg (tCall (sp_points_against K) [] E0 (tCons (tVar 0) (tCons (tVar 1) (tCons (tVar 2) (tCons (tVar 3) (tNil)))))) (gName 4)) (tRet (tLst (tCons (tC (.int 0)) (tCons (tOp (rIxT K) (tVar 4) (tC (.int 0))) (tCons (tOp (rIxT K) (tVar 4) (tC (.int 1))) (tNil))))))
theorem dv_told_against {X : Cx} (o0 : On fa X ["deal", "here", "side", "choices", "points"] (defScope s_told_against)) (hf : ∀ x, X.fn x = true) (c_points_against : Cal X "points_against" (sp_points_against X.K)) : PSs X (defBody s_told_against) (t_told_against X.K) := by
  have n0 := nm_told_against
  exact pss_cons (aset o0 n0 hf 4 (acall o0 n0 c_points_against (pa_cons (av o0 n0 0 (gm 0 rfl) rfl) (pa_cons (av o0 n0 1 (gm 1 rfl) rfl) (pa_cons (av o0 n0 2 (gm 2 rfl) rfl) (pa_cons (av o0 n0 3 (gm 3 rfl) rfl) (pa_nil))))) (gm 0 rfl)) (gm 0 rfl) rfl) (pss_one (ps_ret (pe_lst (pa_cons (pe_int) (pa_cons (pe_ix ix_tup (av o0 n0 4 (gm 4 rfl) rfl) (pe_int) (fun _ _ => rfl)) (pa_cons (pe_ix ix_tup (av o0 n0 4 (gm 4 rfl) rfl) (pe_int) (fun _ _ => rfl)) (pa_nil)))))))
theorem ev_told_against (C : Ctx K mg) : ∀ a : APlan, Good a.1 a.2.1 → ∀ W, Rt (t_told_against K) (envOf ["deal", "here", "side", "choices", "points"] (domPlan K a)) W (rO W (dZ (agM a.1 a.2.1 a.2.2.1 a.2.2.2))) := fun ⟨x, p, s, l⟩ g W => by
  dsimp only at g ⊢
  refine rt_seq (nx_set (ev_call (x, p, s, l) g (ea_cons ev_var (ea_cons ev_var (ea_cons ev_var (ea_cons ev_var ea_nil)))))) ?_
  exact rt_retO (evO_lst (ea_cons ev_c (ea_cons (ev_ixT (j := 0) ev_var ev_c rfl) (ea_cons (ev_ixT (j := 1) ev_var ev_c rfl) ea_nil))))
theorem ok_told_against {P : Program} {w : World} {K : PySem.W.Frag} {mg : Str → Option Value} {base : Heap} (C : Ctx K mg) : Ok P w K mg base 34 "told_against" ["deal", "here", "side", "choices"] (sp_told_against K) :=
  ok_gen C 85 rfl rfl sc_told_against fg_told_against (fun _ _ _ _ _ _ hr o => dv_told_against o (fun _ => rfl) ((ok_points_against C).cal hr (by decide))) (fun _ _ _ _ _ _ us hl => match us, hl with | [_, _, _, _], _ => rfl) (len_own fun _ => rfl) fun _ _ _ _ h => reads_own (ev_told_against C) h
def foundM (x : Deal) (p : Position) (op : Int) : List Int := if op = 7 then bothM x (guarP x p) else if op = 8 then valsM x p else if op = 9 then 0 :: Vbndao.withLength (bestL x p) else if op = 10 then [0, (Vbndao.continuationCount x (Vbndao.cardsToPlay p) p : Int)] else leadM x p
def sp_found_out (K : PySem.W.Frag) : Sp := spOwn (fun a : Deal × Position × Int => DealOk a.1 ∧ Good a.1 a.2.1) (fun a => [dDeal K a.1, dPos K a.2.1, dI a.2.2]) (fun a => dZ (foundM a.1 a.2.1 a.2.2))
/-! found_out -/
def N_found_out : List Str := ["deal", "here", "operation"]
theorem sc_found_out : FnScope ["deal", "here", "operation"] ["deal", "here", "operation"] (defScope s_found_out) := ⟨rfl, rfl, rfl, by decide +kernel, rfl, by decide +kernel, by decide +kernel⟩
theorem nm_found_out : nmB ["deal", "here", "operation"] (defScope s_found_out) [2, 0, 1] [] ["guaranteed", "both_sides", "told_values", "best_line", "listed", "continuations", "told_leaders"] = true := by decide +kernel
def t_found_out (K : PySem.W.Frag) (q_guaranteed : Sp) (q_continuations : Sp) : TS := tSeq (tIfS (tTest (tOp rEq (tVar 2) (tC (.int 7)))) (tRet (tCall (sp_both_sides K) [] E0 (tCons (tVar 0) (tCons (tCall q_guaranteed [] E0 (tCons (tVar 0) (tCons (tVar 1) (tNil)))) (tNil))))) (tNext)) (tSeq (tIfS (tTest (tOp rEq (tVar 2) (tC (.int 8)))) (tRet (tCall (sp_told_values K) [] E0 (tCons (tVar 0) (tCons (tVar 1) (tNil))))) (tNext)) (tSeq (tIfS (tTest (tOp rEq (tVar 2) (tC (.int 9)))) (tRet (tOp rCat (tLst (tCons (tC (.int 0)) (tNil))) (tCall (sp_listed K) [] E0 (tCons (tCall (sp_best_line K) [] E0 (tCons (tVar 0) (tCons (tVar 1) (tNil)))) (tNil))))) (tNext)) (tSeq (tIfS (tTest (tOp rEq (tVar 2) (tC (.int 10)))) (tRet (tLst (tCons (tC (.int 0)) (tCons (tCall q_continuations [] E0 (tCons (tVar 0) (tCons (tVar 1) (tNil)))) (tNil))))) (tNext)) (tRet (tCall (sp_told_leaders K) [] E0 (tCons (tVar 0) (tCons (tVar 1) (tNil))))))))
theorem dv_found_out {X : Cx} {q_guaranteed : Sp} {q_continuations : Sp} (o0 : On fa X ["deal", "here", "operation"] (defScope s_found_out)) (hf : ∀ x, X.fn x = true) (c_guaranteed : Cal X "guaranteed" q_guaranteed) (c_both_sides : Cal X "both_sides" (sp_both_sides X.K)) (c_told_values : Cal X "told_values" (sp_told_values X.K)) (c_best_line : Cal X "best_line" (sp_best_line X.K)) (c_listed : Cal X "listed" (sp_listed X.K)) (c_continuations : Cal X "continuations" q_continuations) (c_told_leaders : Cal X "told_leaders" (sp_told_leaders X.K)) : PSs X (defBody s_found_out) (t_found_out X.K q_guaranteed q_continuations) := by
  have n0 := nm_found_out
  exact pss_cons (ps_if (pt_cmpR op_eq (av o0 n0 2 (gm 0 rfl) rfl) (pe_int) (nomark _)) (pss_one (ps_ret (acall o0 n0 c_both_sides (pa_cons (av o0 n0 0 (gm 1 rfl) rfl) (pa_cons (acall o0 n0 c_guaranteed (pa_cons (av o0 n0 0 (gm 1 rfl) rfl) (pa_cons (av o0 n0 1 (gm 2 rfl) rfl) (pa_nil))) (gm 0 rfl)) (pa_nil))) (gm 1 rfl)))) (pss_nil)) (pss_cons (ps_if (pt_cmpR op_eq (av o0 n0 2 (gm 0 rfl) rfl) (pe_int) (nomark _)) (pss_one (ps_ret (acall o0 n0 c_told_values (pa_cons (av o0 n0 0 (gm 1 rfl) rfl) (pa_cons (av o0 n0 1 (gm 2 rfl) rfl) (pa_nil))) (gm 2 rfl)))) (pss_nil)) (pss_cons (ps_if (pt_cmpR op_eq (av o0 n0 2 (gm 0 rfl) rfl) (pe_int) (nomark _)) (pss_one (ps_ret (pe_op op_cat (pe_lst (pa_cons (pe_int) (pa_nil))) (acall o0 n0 c_listed (pa_cons (acall o0 n0 c_best_line (pa_cons (av o0 n0 0 (gm 1 rfl) rfl) (pa_cons (av o0 n0 1 (gm 2 rfl) rfl) (pa_nil))) (gm 3 rfl)) (pa_nil)) (gm 4 rfl))))) (pss_nil)) (pss_cons (ps_if (pt_cmpR op_eq (av o0 n0 2 (gm 0 rfl) rfl) (pe_int) (nomark _)) (pss_one (ps_ret (pe_lst (pa_cons (pe_int) (pa_cons (acall o0 n0 c_continuations (pa_cons (av o0 n0 0 (gm 1 rfl) rfl) (pa_cons (av o0 n0 1 (gm 2 rfl) rfl) (pa_nil))) (gm 5 rfl)) (pa_nil)))))) (pss_nil)) (pss_one (ps_ret (acall o0 n0 c_told_leaders (pa_cons (av o0 n0 0 (gm 1 rfl) rfl) (pa_cons (av o0 n0 1 (gm 2 rfl) rfl) (pa_nil))) (gm 6 rfl)))))))
theorem ev_found_out (C : Ctx K mg) : ∀ a : Deal × Position × Int, (DealOk a.1 ∧ Good a.1 a.2.1) → ∀ W, Rt (t_found_out K (sp_guaranteed K) (sp_continuations K)) (envOf ["deal", "here", "operation"] [dDeal K a.1, dPos K a.2.1, dI a.2.2]) W (rO W (dZ (foundM a.1 a.2.1 a.2.2))) := fun ⟨x, p, op⟩ ⟨o, g⟩ W => by
  dsimp only at o g ⊢
  unfold foundM
  have hl := left_le g
  refine rt_ifR (et_test (ev_eqI ev_var ev_c)) (fun e => ?_) fun e => ?_
  · rw [if_pos (of_decide_eq_true e)]
    exact rt_retO (evO_call (x, guarP x p) o (ea_cons ev_var (ea_cons (ev_guar g (ea_cons ev_var (ea_cons ev_var ea_nil))) ea_nil)))
  rw [if_neg (of_decide_eq_false e)]
  clear e
  refine rt_ifR (et_test (ev_eqI ev_var ev_c)) (fun e => ?_) fun e => ?_
  · rw [if_pos (of_decide_eq_true e)]
    exact rt_retO (evO_call (x, p) g (ea_cons ev_var (ea_cons ev_var ea_nil)))
  rw [if_neg (of_decide_eq_false e)]
  clear e
  refine rt_ifR (et_test (ev_eqI ev_var ev_c)) (fun e => ?_) fun e => ?_
  · rw [if_pos (of_decide_eq_true e)]
    have hb : (bestL x p).length ≤ 12 := by unfold bestL; rw [List.length_map, List.length_range]; exact hl
    exact rt_retO (evO_zero (EvO.ev (evO_listed (ev_call (x, p) g (ea_cons ev_var (ea_cons ev_var ea_nil))) (by omega))) (by rw [withLen]; omega))
  rw [if_neg (of_decide_eq_false e)]
  clear e
  refine rt_ifR (et_test (ev_eqI ev_var ev_c)) (fun e => ?_) fun e => ?_
  · rw [if_pos (of_decide_eq_true e)]
    exact rt_retO (evO_lst (ea_cons ev_c (ea_cons (ev_cont g (ea_cons ev_var (ea_cons ev_var ea_nil))) ea_nil)))
  rw [if_neg (of_decide_eq_false e)]
  exact rt_retO (evO_call (x, p) g (ea_cons ev_var (ea_cons ev_var ea_nil)))
theorem ok_found_out {P : Program} {w : World} {K : PySem.W.Frag} {mg : Str → Option Value} {base : Heap} (C : Ctx K mg) : Ok P w K mg base 34 "found_out" ["deal", "here", "operation"] (sp_found_out K) :=
  ok_gen C 87 rfl rfl sc_found_out fg_found_out (fun _ _ _ _ _ _ hr o => dv_found_out o (fun _ => rfl) ((ok_guaranteed C).cal hr (by decide)) ((ok_both_sides C).cal hr (by decide)) ((ok_told_values C).cal hr (by decide)) ((ok_best_line C).cal hr (by decide)) ((ok_listed C).cal hr (by decide)) ((ok_continuations C).cal hr (by decide)) ((ok_told_leaders C).cal hr (by decide))) (fun _ _ _ _ _ _ us hl => match us, hl with | [_, _, _], _ => rfl) (len_own fun _ => rfl) fun _ _ _ _ h => reads_own (ev_found_out C) h
end
end Fd

namespace Fd
open PySem PySem.Spec PyProof.Rows L2
open Vbndao (Deal Position)
section
variable {P : Program} {w : World} {K : PySem.W.Frag} {mg : Str → Option Value} {base : Heap}
theorem inR {z lo hi : Int} (h : Vbndao.inRange z lo hi = true) : lo ≤ z ∧ z ≤ hi := by
  unfold Vbndao.inRange at h
  rw [Bool.and_eq_true, decide_eq_true_eq, decide_eq_true_eq] at h
  exact h
theorem rowR {row : List Int} {m : Nat} {lo hi : Int} (h : rowM row m lo hi = true) : row.length ≤ m ∧ ∀ z ∈ row, lo ≤ z ∧ z ≤ hi := by
  unfold rowM at h
  rw [Bool.and_eq_true, decide_eq_true_eq, List.all_eq_true] at h
  exact ⟨h.1, fun z hz => inR (h.2 z hz)⟩
theorem toN {z : Int} (h : 0 ≤ z) : dI z = dN z.toNat := congrArg dI (by omega)
def askedM (x : Deal) (p : Position) (op : Int) (ns row : List Int) : List Int := if op = 11 then planM x p (ns.getD 0 0).toNat (Vbndao.toNats row) else if op = 12 then claimM x p (ns.getD 0 0).toNat (ns.getD 1 0) else if op = 13 then agM x p (ns.getD 0 0).toNat (Vbndao.toNats row) else exM x (ns.getD 0 0).toNat (ns.getD 1 0).toNat
abbrev AAsk := Deal × Position × Int × List Int × List Int
abbrev within (op : Int) (ns row : List Int) : Prop := callOk (op, ns, row) ∧ withinM op ns row = true
def sp_asked_with (K : PySem.W.Frag) : Sp := spOwn (fun a : AAsk => DealOk a.1 ∧ Good a.1 a.2.1 ∧ within a.2.2.1 a.2.2.2.1 a.2.2.2.2 ∧ [11, 12, 13, 15].contains a.2.2.1 = true) (fun a => [dDeal K a.1, dPos K a.2.1, dI a.2.2.1, dIs a.2.2.2.1, dIs a.2.2.2.2]) (fun a => dZ (askedM a.1 a.2.1 a.2.2.1 a.2.2.2.1 a.2.2.2.2))
/-! asked_with -/
def N_asked_with : List Str := ["deal", "here", "operation", "numbers", "row"]
theorem sc_asked_with : FnScope ["deal", "here", "operation", "numbers", "row"] ["deal", "here", "operation", "numbers", "row"] (defScope s_asked_with) := ⟨rfl, rfl, rfl, by decide +kernel, rfl, by decide +kernel, by decide +kernel⟩
theorem nm_asked_with : nmB ["deal", "here", "operation", "numbers", "row"] (defScope s_asked_with) [2, 0, 1, 3, 4] [] ["told_plan", "told_claim", "told_against", "told_exchange"] = true := by decide +kernel
def t_asked_with (K : PySem.W.Frag) : TS := tSeq (tIfS (tTest (tOp rEq (tVar 2) (tC (.int 11)))) (tRet (tCall (sp_told_plan K) [] E0 (tCons (tVar 0) (tCons (tVar 1) (tCons (tOp (rIxL K) (tVar 3) (tC (.int 0))) (tCons (tVar 4) (tNil))))))) (tNext)) (tSeq (tIfS (tTest (tOp rEq (tVar 2) (tC (.int 12)))) (tRet (tCall (sp_told_claim K) [] E0 (tCons (tVar 0) (tCons (tVar 1) (tCons (tOp (rIxL K) (tVar 3) (tC (.int 0))) (tCons (tOp (rIxL K) (tVar 3) (tC (.int 1))) (tNil))))))) (tNext)) (tSeq (tIfS (tTest (tOp rEq (tVar 2) (tC (.int 13)))) (tRet (tCall (sp_told_against K) [] E0 (tCons (tVar 0) (tCons (tVar 1) (tCons (tOp (rIxL K) (tVar 3) (tC (.int 0))) (tCons (tVar 4) (tNil))))))) (tNext)) (tRet (tCall (sp_told_exchange K) [] E0 (tCons (tVar 0) (tCons (tOp (rIxL K) (tVar 3) (tC (.int 0))) (tCons (tOp (rIxL K) (tVar 3) (tC (.int 1))) (tNil))))))))
theorem dv_asked_with {X : Cx} (o0 : On fa X ["deal", "here", "operation", "numbers", "row"] (defScope s_asked_with)) (hf : ∀ x, X.fn x = true) (c_told_plan : Cal X "told_plan" (sp_told_plan X.K)) (c_told_claim : Cal X "told_claim" (sp_told_claim X.K)) (c_told_against : Cal X "told_against" (sp_told_against X.K)) (c_told_exchange : Cal X "told_exchange" (sp_told_exchange X.K)) : PSs X (defBody s_asked_with) (t_asked_with X.K) := by
  have n0 := nm_asked_with
  exact pss_cons (ps_if (pt_cmpR op_eq (av o0 n0 2 (gm 0 rfl) rfl) (pe_int) (nomark _)) (pss_one (ps_ret (acall o0 n0 c_told_plan (pa_cons (av o0 n0 0 (gm 1 rfl) rfl) (pa_cons (av o0 n0 1 (gm 2 rfl) rfl) (pa_cons (pe_ix ix_list (av o0 n0 3 (gm 3 rfl) rfl) (pe_int) (fun _ _ => rfl)) (pa_cons (av o0 n0 4 (gm 4 rfl) rfl) (pa_nil))))) (gm 0 rfl)))) (pss_nil)) (pss_cons (ps_if (pt_cmpR op_eq (av o0 n0 2 (gm 0 rfl) rfl) (pe_int) (nomark _)) (pss_one (ps_ret (acall o0 n0 c_told_claim (pa_cons (av o0 n0 0 (gm 1 rfl) rfl) (pa_cons (av o0 n0 1 (gm 2 rfl) rfl) (pa_cons (pe_ix ix_list (av o0 n0 3 (gm 3 rfl) rfl) (pe_int) (fun _ _ => rfl)) (pa_cons (pe_ix ix_list (av o0 n0 3 (gm 3 rfl) rfl) (pe_int) (fun _ _ => rfl)) (pa_nil))))) (gm 1 rfl)))) (pss_nil)) (pss_cons (ps_if (pt_cmpR op_eq (av o0 n0 2 (gm 0 rfl) rfl) (pe_int) (nomark _)) (pss_one (ps_ret (acall o0 n0 c_told_against (pa_cons (av o0 n0 0 (gm 1 rfl) rfl) (pa_cons (av o0 n0 1 (gm 2 rfl) rfl) (pa_cons (pe_ix ix_list (av o0 n0 3 (gm 3 rfl) rfl) (pe_int) (fun _ _ => rfl)) (pa_cons (av o0 n0 4 (gm 4 rfl) rfl) (pa_nil))))) (gm 2 rfl)))) (pss_nil)) (pss_one (ps_ret (acall o0 n0 c_told_exchange (pa_cons (av o0 n0 0 (gm 1 rfl) rfl) (pa_cons (pe_ix ix_list (av o0 n0 3 (gm 3 rfl) rfl) (pe_int) (fun _ _ => rfl)) (pa_cons (pe_ix ix_list (av o0 n0 3 (gm 3 rfl) rfl) (pe_int) (fun _ _ => rfl)) (pa_nil)))) (gm 3 rfl))))))
theorem ev_asked_with (C : Ctx K mg) : ∀ a : AAsk, (DealOk a.1 ∧ Good a.1 a.2.1 ∧ within a.2.2.1 a.2.2.2.1 a.2.2.2.2 ∧ [11, 12, 13, 15].contains a.2.2.1 = true) → ∀ W, Rt (t_asked_with K) (envOf ["deal", "here", "operation", "numbers", "row"] [dDeal K a.1, dPos K a.2.1, dI a.2.2.1, dIs a.2.2.2.1, dIs a.2.2.2.2]) W (rO W (dZ (askedM a.1 a.2.1 a.2.2.1 a.2.2.2.1 a.2.2.2.2))) := fun ⟨x, p, op, ns, row⟩ ⟨o, g, ⟨⟨c1, c2, c3, c4, c5⟩, hw⟩, hop⟩ W => by
  dsimp only at o g c1 c2 c3 c4 c5 hw hop ⊢
  unfold askedM
  refine rt_ifR (et_test (ev_eqI ev_var ev_c)) (fun e => ?_) fun e => ?_
  · have e := of_decide_eq_true e
    rw [if_pos e]
    subst e
    unfold withinM at hw
    rw [if_neg (by decide), if_neg (by decide), if_neg (by decide), if_pos rfl, Bool.and_eq_true] at hw
    obtain ⟨k1, k2⟩ := inR hw.1
    obtain ⟨k3, k4⟩ := rowR hw.2
    exact rt_retO (evO_call (x, p, (ns.getD 0 0).toNat, Vbndao.toNats row) ⟨g, by show (ns.getD 0 0).toNat ≤ 1; omega⟩ (ea_cons ev_var (ea_cons ev_var (ea_cons ((ev_ixL (j := 0) ev_var ev_c (ints_at (c3 (.inl rfl)))).to (toN k1)) (ea_cons (Ev.to ev_var (nats_back fun z hz => by have := k4 z hz; omega)) ea_nil)))))
  have e1 := of_decide_eq_false e
  rw [if_neg e1]
  clear e
  refine rt_ifR (et_test (ev_eqI ev_var ev_c)) (fun e => ?_) fun e => ?_
  · have e := of_decide_eq_true e
    rw [if_pos e]
    subst e
    unfold withinM at hw
    rw [if_neg (by decide), if_neg (by decide), if_neg (by decide), if_neg (by decide), if_pos rfl, Bool.and_eq_true] at hw
    obtain ⟨k1, k2⟩ := inR hw.1
    have hl := c4 (.inl rfl)
    exact rt_retO (evO_call (x, p, (ns.getD 0 0).toNat, ns.getD 1 0) ⟨o, g, by show (ns.getD 0 0).toNat ≤ 1; omega⟩ (ea_cons ev_var (ea_cons ev_var (ea_cons ((ev_ixL (j := 0) ev_var ev_c (ints_at (by omega))).to (toN k1)) (ea_cons (ev_ixL (j := 1) ev_var ev_c (ints_at (by omega))) ea_nil)))))
  have e2 := of_decide_eq_false e
  rw [if_neg e2]
  clear e
  refine rt_ifR (et_test (ev_eqI ev_var ev_c)) (fun e => ?_) fun e => ?_
  · have e := of_decide_eq_true e
    rw [if_pos e]
    subst e
    unfold withinM at hw
    rw [if_neg (by decide), if_neg (by decide), if_neg (by decide), if_neg (by decide), if_neg (by decide), if_pos rfl, Bool.and_eq_true] at hw
    obtain ⟨k1, k2⟩ := inR hw.1
    obtain ⟨k3, k4⟩ := rowR hw.2
    exact rt_retO (evO_call (x, p, (ns.getD 0 0).toNat, Vbndao.toNats row) g (ea_cons ev_var (ea_cons ev_var (ea_cons ((ev_ixL (j := 0) ev_var ev_c (ints_at (c3 (.inr rfl)))).to (toN k1)) (ea_cons (Ev.to ev_var (nats_back fun z hz => by have := k4 z hz; omega)) ea_nil)))))
  have e3 := of_decide_eq_false e
  rw [if_neg e3]
  have e4 : op = 15 := by
    have := List.contains_iff_mem.mp hop
    simp only [List.mem_cons, List.not_mem_nil, or_false] at this
    omega
  subst e4
  unfold withinM at hw
  rw [if_neg (by decide), if_pos (by decide), List.all_eq_true] at hw
  have hl := c4 (.inr rfl)
  have k0 : 0 ≤ ns.getD 0 0 := by
    have := inR (hw (ns.getD 0 0) (by rw [List.getD_eq_getElem?_getD, List.getElem?_eq_getElem (by omega)]; exact List.getElem_mem _))
    omega
  have k1 : 0 ≤ ns.getD 1 0 := by
    have := inR (hw (ns.getD 1 0) (by rw [List.getD_eq_getElem?_getD, List.getElem?_eq_getElem (by omega)]; exact List.getElem_mem _))
    omega
  exact rt_retO (evO_call (x, (ns.getD 0 0).toNat, (ns.getD 1 0).toNat) o (ea_cons ev_var (ea_cons ((ev_ixL (j := 0) ev_var ev_c (ints_at (by omega))).to (toN k0)) (ea_cons ((ev_ixL (j := 1) ev_var ev_c (ints_at (by omega))).to (toN k1)) ea_nil))))
theorem ok_asked_with {P : Program} {w : World} {K : PySem.W.Frag} {mg : Str → Option Value} {base : Heap} (C : Ctx K mg) : Ok P w K mg base 35 "asked_with" ["deal", "here", "operation", "numbers", "row"] (sp_asked_with K) :=
  ok_gen C 88 rfl rfl sc_asked_with fg_asked_with (fun _ _ _ _ _ _ hr o => dv_asked_with o (fun _ => rfl) ((ok_told_plan C).cal hr (by decide)) ((ok_told_claim C).cal hr (by decide)) ((ok_told_against C).cal hr (by decide)) ((ok_told_exchange C).cal hr (by decide))) (fun _ _ _ _ _ _ us hl => match us, hl with | [_, _, _, _, _], _ => rfl) (len_own fun _ => rfl) fun _ _ _ _ h => reads_own (ev_asked_with C) h
/-! ### the table -/
abbrev TSt := Vbndao.State
def fTab (K : PySem.W.Frag) (s : TSt) : List (Str × Dsc) := [("deal", match s with | none => dV .non | some h => dDeal K h.deal), ("played", dNs (match s with | none => [] | some h => h.history))]
def StOk (s : TSt) : Prop := ∀ h, s = some h → DealOk h.deal ∧ Run h.deal (Vbndao.initialPosition h.deal) h.history
def ownT (K : PySem.W.Frag) (W0 : Wd) (x : Addr) (s : TSt) : Own := ownI W0 (He.ga K "Table") x (fTab K s)
def rT (K : PySem.W.Frag) (W0 : Wd) (x : Addr) (d : Dsc) (s : TSt) : V → Wd → Prop := fun v U => d.ok v U.F ∧ (ownT K W0 x s).ok (.ref x) U
def spT {α : Type} (K : PySem.W.Frag) (pre : α → Prop) (dom : α → List Dsc) (cod : α → Dsc) (bef aft : α → TSt) : Sp := fun vs H Q _ => ∃ (a : α) (W0 W : Wd) (x : Addr) (us : List V), vs = .ref x :: us ∧ W.H = H ∧ Le W0 W ∧ (ownT K W0 x (bef a)).ok (.ref x) W ∧ pre a ∧ AllD (dom a) us W.F ∧
  ∀ r U, Le W0 U → (ownT K W0 x (aft a)).ok (.ref x) U → (cod a).ok r U.F → Q r U.H
def envT (N : List Str) (K : PySem.W.Frag) (W0 : Wd) (x : Addr) (y : TSt) (ds : List Dsc) : En := some (.ow (ownT K W0 x y)) :: (ds.map (fun d => some (.pl d)) ++ List.replicate (N.length - (ds.length + 1)) none)
theorem reads_T {α : Type} {pre : α → Prop} {dom : α → List Dsc} {cod : α → Dsc} {bef aft : α → TSt} {N : List Str} {t : TS} (h : ∀ a, pre a → ∀ W0 x, Rt t (envT N K W0 x (bef a) (dom a)) W0 (rT K W0 x (cod a) (aft a))) {vs : List V} {H : Hp} {Q : VK} {E : XK} (k : spT K pre dom cod bef aft vs H Q E) :
    t { nx := fun _ H' => Q .non H', rt := Q } (L2.start N vs) H := by
  obtain ⟨a, W0, W, x, us, rfl, rfl, l, ow, hp, ad, q⟩ := k
  have st : Sat (envT N K W0 x (bef a) (dom a)) (L2.start N (.ref x :: us)) W := by
    unfold envT L2.start
    rw [← ad.len]
    exact ⟨ow, sat_env ad⟩
  exact h a hp W0 x _ W l st _ fun v U lu r => q v U lu r.2 r.1
theorem len_T {α : Type} {pre : α → Prop} {dom : α → List Dsc} {cod : α → Dsc} {bef aft : α → TSt} {n : Nat} (hn : ∀ a, (dom a).length + 1 = n) (vs : List V) (H : Hp) (Q : VK) (E : XK) (k : spT K pre dom cod bef aft vs H Q E) : vs.length = n := by
  obtain ⟨a, W0, W, x, us, rfl, _, _, _, _, ad, _⟩ := k
  rw [List.length_cons, ad.len, hn a]
theorem call_T {α : Type} {pre : α → Prop} {dom : α → List Dsc} {cod : α → Dsc} {bef aft : α → TSt} (a : α) (hp : pre a) {W W2 : Wd} {x : Addr} {us : List V} (l : Le W W2) (ow : (ownT K W x (bef a)).ok (.ref x) W2) (ad : AllD (dom a) us W2.F) {Q : VK} {E : XK}
    (q : ∀ r U, Le W U → Same W2.F U.F → (∀ b o, b ≠ x → W2.H b = some o → U.H b = some o ∧ (W2.F b = none → U.F b = none)) → (ownT K W x (aft a)).ok (.ref x) U → (cod a).ok r U.F → Q r U.H) : spT K pre dom cod bef aft (.ref x :: us) W2.H Q E := by
  obtain ⟨_, h2, h3, dx, vs, h4, h5⟩ := ow
  have hF : ∀ b, b = x ∨ b ∈ ([] : List Addr) → W2.F b = none := fun b k => by
    rcases k with k | k
    · rw [k]; exact h3
    · cases k
  have hin : (W2.shr x [] hF).H x = none := if_pos (.inl rfl)
  have hout : ∀ b, b ≠ x → (W2.shr x [] hF).H b = W2.H b := fun b k => if_neg (fun j => by
    rcases j with j | j
    · exact k j
    · cases j)
  refine ⟨a, W2.shr x [] hF, W2, x, us, rfl, rfl, ⟨fun _ _ e => e, fun b o e => ?_, fun _ _ _ e => e⟩, ⟨rfl, hin, h3, dx, vs, h4, h5⟩, hp, ad, fun r U lu ow2 o => q r U ⟨fun b o e => lu.f _ _ (l.f _ _ e), fun b o e => ?_, fun b o e n => ?_⟩ lu.f (fun b o k e => ⟨lu.h _ _ (by rw [hout b k]; exact e), fun n => lu.new b o (by rw [hout b k]; exact e) n⟩) ?_ o⟩
  · by_cases k : b = x
    · subst k; rw [hin] at e; cases e
    · rw [hout b k] at e; exact e
  · have k : b ≠ x := fun k => by subst k; rw [h2] at e; cases e
    exact lu.h _ _ (by rw [hout b k]; exact l.h _ _ e)
  · have k : b ≠ x := fun k => by subst k; rw [h2] at e; cases e
    exact lu.new b o (by rw [hout b k]; exact l.h _ _ e) (l.new _ _ e n)
  · obtain ⟨g1, g2, g3, g4⟩ := ow2
    exact ⟨g1, h2, g3, g4⟩
theorem rt_callT {α : Type} {pre : α → Prop} {dom : α → List Dsc} {cod : α → Dsc} {bef aft : α → TSt} {G : En} {W : Wd} {x : Addr} {t : TA} (a : α) (hp : pre a) (hG : G[0]? = some (some (.ow (ownT K W x (bef a))))) (h : EvA t G W (dom a)) :
    Rt (tRet (tCall (spT K pre dom cod bef aft) [] E0 (tCons (tVar 0) t))) G W (rT K W x (cod a) (aft a)) := fun σ W1 l s D q => by
  obtain ⟨v, hv, ow⟩ := s.get hG
  have ev : v = .ref x := ow.1
  subst ev
  refine ⟨_, hv, h σ W1 l s _ fun us W2 l2 ad => ?_⟩
  show spT K pre dom cod bef aft ((V.ref x :: us) ++ []) W2.H _ _
  rw [List.append_nil]
  exact call_T a hp (l.trans l2) ((ownT K W x (bef a)).mono l2 ow) ad fun r U lu _ _ o k => q r U lu ⟨k, o⟩
theorem rt_retT {G : En} {W : Wd} {te : TE} {d : Dsc} {x : Addr} {y : TSt} (hG : G[0]? = some (some (.ow (ownT K W x y)))) (h : Ev te G W d) : Rt (tRet te) G W (rT K W x d y) := fun σ W1 l s D q => by
  obtain ⟨v, hv, ow⟩ := s.get hG
  have ev : v = .ref x := ow.1
  subst ev
  exact h σ W1 l s _ fun r W2 l2 o => q r W2 (l.trans l2) ⟨o, (ownT K W x y).mono l2 ow⟩
def sp_Table (K : PySem.W.Frag) : Sp := spMk (He.ga K "Table") (fun _ : Unit => True) (fun _ => []) (fun _ => fTab K none)
/-! Table.__init__ -/
def N_Table : List Str := ["self"]
theorem sc_Table : FnScope ["self"] ["self"] (defScope s_Table) := ⟨rfl, rfl, rfl, by decide +kernel, rfl, by decide +kernel, by decide +kernel⟩
theorem nm_Table : nmB ["self"] (defScope s_Table) [0] [] [] = true := by decide +kernel
def t_Table (K : PySem.W.Frag) : TS := tSeq (sFld K (tVar 0) (tC .non) "deal") (sFld K (tVar 0) (tLst (tNil)) "played")
theorem dv_Table {X : Cx} (o0 : On fa X ["self"] (defScope s_Table)) (hf : ∀ x, X.fn x = true) : PSs X (defBody s_Table) (t_Table X.K) := by
  have n0 := nm_Table
  exact pss_cons (ps_fld (av o0 n0 0 (gm 0 rfl) rfl) (pe_non) rfl) (pss_one (ps_fld (av o0 n0 0 (gm 0 rfl) rfl) (pe_lst (pa_nil)) rfl))
theorem ev_Table (C : Ctx K mg) : ∀ a : Unit, True → ∀ W0 x, ∃ G', Nx (t_Table K) (envM ["self"] W0 (He.ga K "Table") x []) W0 (some (.ow (ownI W0 (He.ga K "Table") x (fTab K none))) :: G') := fun _ _ W0 x => by
  refine ⟨[], ?_⟩
  refine nx_seq (nx_new (i := 0) (d := dV .non) [] rfl rfl ev_c (C.cls fc_Table) (C.noat fn_Table_deal) rfl rfl) ?_
  exact nx_to (nx_new (i := 0) (d := dNs []) ["deal"] rfl rfl (EvO.ev (evO_lst ea_nil)) (C.cls fc_Table) (C.noat fn_Table_played) rfl (by decide +kernel)) rfl
theorem okM_Table {P : Program} {w : World} {K : PySem.W.Frag} {mg : Str → Option Value} {base : Heap} (C : Ctx K mg) : OkM P w K mg base 1 "Table" ["self"] (sp_Table K) :=
  okM_gen C 97 rfl rfl sc_Table fg_Table fm_Table (fun _ _ _ _ _ _ hr o => dv_Table o (fun _ => rfl)) (fun _ _ _ _ _ _ us hl => match us, hl with | [_], _ => rfl) (len_mk fun _ => rfl) fun _ _ _ _ h => reads_mk (ev_Table C) h
def checkM (t : List Nat) : List Int := if (readD t).1 = (0, 0) then [0, 0] else [0, 1, ((readD t).1.1 : Int), ((readD t).1.2 : Int)]
def sp_check_deal (K : PySem.W.Frag) : Sp := spOwn (fun a : List Nat => a.length ≤ 5000) (fun a => [dNs a]) (fun a => dZ (checkM a))
/-! check_deal -/
def N_check_deal : List Str := ["text", "sheet", "fault"]
theorem sc_check_deal : FnScope ["text", "sheet", "fault"] ["text"] (defScope s_check_deal) := ⟨rfl, rfl, rfl, by decide +kernel, rfl, by decide +kernel, by decide +kernel⟩
theorem nm_check_deal : nmB ["text", "sheet", "fault"] (defScope s_check_deal) [0, 2] [1, 2] ["read_deal", "NO_FAULT"] = true := by decide +kernel
def t_check_deal (K : PySem.W.Frag) : TS := tSeq (tAsg (tCall (sp_read_deal K) [] E0 (tCons (tVar 0) (tNil))) (gTup K 2 (gCons (gName 1) (gCons (gName 2) (gNil))))) (tRet (tIf (tTest (tOp (rEqD K) (tVar 2) (tC (.ref (He.ga K "NO_FAULT"))))) (tLst (tCons (tC (.int 0)) (tCons (tC (.int 0)) (tNil)))) (tLst (tCons (tC (.int 0)) (tCons (tC (.int 1)) (tCons (tOp (rIxT K) (tVar 2) (tC (.int 0))) (tCons (tOp (rIxT K) (tVar 2) (tC (.int 1))) (tNil))))))))
theorem dv_check_deal {X : Cx} (o0 : On fa X ["text", "sheet", "fault"] (defScope s_check_deal)) (hf : ∀ x, X.fn x = true) (c_read_deal : Cal X "read_deal" (sp_read_deal X.K)) : PSs X (defBody s_check_deal) (t_check_deal X.K) := by
  have n0 := nm_check_deal
  exact pss_cons (ps_asg (acall o0 n0 c_read_deal (pa_cons (av o0 n0 0 (gm 0 rfl) rfl) (pa_nil)) (gm 0 rfl)) (pg_tup o0.calm (pgs_cons (ag o0 n0 hf 1 (gm 0 rfl) rfl) (pgs_cons (ag o0 n0 hf 2 (gm 1 rfl) rfl) (pgs_nil))))) (pss_one (ps_ret (pe_ifExp (pt_cmpR (op_eqD o0.hu) (av o0 n0 2 (gm 1 rfl) rfl) (agr o0 n0 (gm 1 rfl) f_NO_FAULT) (nomark _)) (pe_lst (pa_cons (pe_int) (pa_cons (pe_int) (pa_nil)))) (pe_lst (pa_cons (pe_int) (pa_cons (pe_int) (pa_cons (pe_ix ix_tup (av o0 n0 2 (gm 1 rfl) rfl) (pe_int) (fun _ _ => rfl)) (pa_cons (pe_ix ix_tup (av o0 n0 2 (gm 1 rfl) rfl) (pe_int) (fun _ _ => rfl)) (pa_nil)))))))))
theorem ev_check_deal (C : Ctx K mg) : ∀ a : List Nat, a.length ≤ 5000 → ∀ W, Rt (t_check_deal K) (envOf ["text", "sheet", "fault"] [dNs a]) W (rO W (dZ (checkM a))) := fun t h W => by
  unfold checkM
  refine rt_seq (nx_asg (f := fun G => (G.set 1 (some (.pl (dSheet K (readD t).2)))).set 2 (some (.pl (dFt K (readD t).1)))) (js := [1, 2]) (ev_call t h (ea_cons ev_var ea_nil)) (tg_tup (n := 2) (tgs_cons tg_name (tgs_cons tg_name tgs_nil)))) ?_
  generalize (readD t).1 = f
  refine rt_retO (evO_if (et_test (ev_isNo C ev_var)) (fun e => ?_) fun e => ?_)
  · rw [if_pos (of_decide_eq_true e)]
    exact evO_lst (ea_cons ev_c (ea_cons ev_c ea_nil))
  · rw [if_neg (of_decide_eq_false e)]
    exact evO_lst (ea_cons ev_c (ea_cons ev_c (ea_cons (ev_ixT (j := 0) (d := dN f.1) ev_var ev_c rfl) (ea_cons (ev_ixT (j := 1) (d := dN f.2) ev_var ev_c rfl) ea_nil))))
theorem ok_check_deal {P : Program} {w : World} {K : PySem.W.Frag} {mg : Str → Option Value} {base : Heap} (C : Ctx K mg) : Ok P w K mg base 8 "check_deal" ["text"] (sp_check_deal K) :=
  ok_gen C 75 rfl rfl sc_check_deal fg_check_deal (fun _ _ _ _ _ _ hr o => dv_check_deal o (fun _ => rfl) ((ok_read_deal C).cal hr (by decide))) (fun _ _ _ _ _ _ us hl => match us, hl with | [_], _ => rfl) (len_own fun _ => rfl) fun _ _ _ _ h => reads_own (ev_check_deal C) h
end
end Fd

namespace Fd
open PySem PySem.Spec PyProof.Rows L2
open Vbndao (Deal Position)
section
variable {P : Program} {w : World} {K : PySem.W.Frag} {mg : Str → Option Value} {base : Heap}
abbrev WSp := Vbndao.Workspace
abbrev histT (s : TSt) : List Nat := match s with | none => [] | some h => h.history
theorem nx_dealT (C : Ctx K mg) {G : En} {W : Wd} {te : TE} {a : Addr} {s : TSt} {x : Deal} (hG : G[0]? = some (some (.ow (ownT K W a s)))) (hp : plainE (G.set 0 none) = true) (h : Ev te G W (dDeal K x)) : Nx (sFld K (tVar 0) te "deal") G W (G.set 0 (some (.ow (ownI W (He.ga K "Table") a [("deal", dDeal K x), ("played", dNs (histT s))])))) :=
  nx_to (nx_fld (i := 0) hG hp h (C.cls fc_Table) (C.noat fn_Table_deal) (by show 2 < 1000; decide)) rfl
theorem nx_playT (C : Ctx K mg) {G : En} {W : Wd} {te : TE} {a : Addr} {l0 l : List Nat} {x : Deal} (hG : G[0]? = some (some (.ow (ownI W (He.ga K "Table") a [("deal", dDeal K x), ("played", dNs l0)])))) (hp : plainE (G.set 0 none) = true) (h : Ev te G W (dNs l)) : Nx (sFld K (tVar 0) te "played") G W (G.set 0 (some (.ow (ownT K W a (some ⟨x, l⟩))))) :=
  nx_to (nx_fld (i := 0) hG hp h (C.cls fc_Table) (C.noat fn_Table_played) (by show 2 < 1000; decide)) rfl
theorem ev_dealT (C : Ctx K mg) {G : En} {W : Wd} {a : Addr} {h : WSp} (hG : G[0]? = some (some (.ow (ownT K W a (some h))))) : Ev (tFld K (tVar 0) "deal") G W (dDeal K h.deal) := ev_fldO (i := 0) hG (C.cls fc_Table) (C.noat fn_Table_deal) rfl
theorem ev_playT (C : Ctx K mg) {G : En} {W : Wd} {a : Addr} {h : WSp} (hG : G[0]? = some (some (.ow (ownT K W a (some h))))) : Ev (tFld K (tVar 0) "played") G W (dNs h.history) := ev_fldO (i := 0) hG (C.cls fc_Table) (C.noat fn_Table_played) rfl
abbrev WOk (h : WSp) : Prop := DealOk h.deal ∧ Run h.deal (Vbndao.initialPosition h.deal) h.history
abbrev posOf (h : WSp) : Position := runTo h.deal (Vbndao.initialPosition h.deal) h.history
theorem pos_good {h : WSp} (o : WOk h) : Good h.deal (posOf h) := (run_good (good_start o.1) o.2).1
theorem hist_len {h : WSp} (o : WOk h) : h.history.length ≤ 12 := by
  have h1 := (run_good (good_start o.1) o.2).2.2
  have h2 := left_le (good_start o.1)
  omega
def loadP (s : TSt) (t : List Nat) : TSt × List Int := if (readD t).1 = (0, 0) then (some ⟨(readD t).2, []⟩, [0, ((readD t).2.seats.length : Int), ((Vbndao.allCards (readD t).2).length : Int), (totalOf (readD t).2 : Int)]) else (s, [-3])
def sp_load_deal (K : PySem.W.Frag) : Sp := spT K (fun a : TSt × List Nat => a.2.length ≤ 5000) (fun a => [dNs a.2]) (fun a => dIs (loadP a.1 a.2).2) (fun a => a.1) (fun a => (loadP a.1 a.2).1)
/-! load_deal -/
def N_load_deal : List Str := ["table", "text", "sheet", "fault"]
theorem sc_load_deal : FnScope ["table", "text", "sheet", "fault"] ["table", "text"] (defScope s_load_deal) := ⟨rfl, rfl, rfl, by decide +kernel, rfl, by decide +kernel, by decide +kernel⟩
theorem nm_load_deal : nmB ["table", "text", "sheet", "fault"] (defScope s_load_deal) [1, 3, 0, 2] [2, 3] ["read_deal", "NO_FAULT", "PARSE_ERROR", "Deal", "len", "cards_on", "total_of"] = true := by decide +kernel
def t_load_deal (K : PySem.W.Frag) : TS := tSeq (tAsg (tCall (sp_read_deal K) [] E0 (tCons (tVar 1) (tNil))) (gTup K 2 (gCons (gName 2) (gCons (gName 3) (gNil))))) (tSeq (tIfS (tTest (tOp (rNeD K) (tVar 3) (tC (.ref (He.ga K "NO_FAULT"))))) (tRet (tLst (tCons (tC (.int (-3))) (tNil)))) (tNext)) (tSeq (sFld K (tVar 0) (tMake (He.ga K "Deal") (sp_Deal K) [] E0 (tCons (tVar 2) (tNil))) "deal") (tSeq (sFld K (tVar 0) (tLst (tNil)) "played") (tRet (tLst (tCons (tC (.int 0)) (tCons (tCB (cLen K) (tCons (tFld K (tVar 2) "hands") (tNil))) (tCons (tCB (cLen K) (tCons (tCall (sp_cards_on K) [] E0 (tCons (tVar 2) (tNil))) (tNil))) (tCons (tCall (sp_total_of K) [] E0 (tCons (tFld K (tVar 0) "deal") (tNil))) (tNil))))))))))
theorem dv_load_deal {X : Cx} (o0 : On fa X ["table", "text", "sheet", "fault"] (defScope s_load_deal)) (hf : ∀ x, X.fn x = true) (c_read_deal : Cal X "read_deal" (sp_read_deal X.K)) (c_Deal : Mak X "Deal" (He.ga X.K "Deal") (sp_Deal X.K)) (c_cards_on : Cal X "cards_on" (sp_cards_on X.K)) (c_total_of : Cal X "total_of" (sp_total_of X.K)) : PSs X (defBody s_load_deal) (t_load_deal X.K) := by
  have n0 := nm_load_deal
  exact pss_cons (ps_asg (acall o0 n0 c_read_deal (pa_cons (av o0 n0 1 (gm 0 rfl) rfl) (pa_nil)) (gm 0 rfl)) (pg_tup o0.calm (pgs_cons (ag o0 n0 hf 2 (gm 0 rfl) rfl) (pgs_cons (ag o0 n0 hf 3 (gm 1 rfl) rfl) (pgs_nil))))) (pss_cons (ps_if (pt_cmpR (op_neD o0.hu) (av o0 n0 3 (gm 1 rfl) rfl) (agr o0 n0 (gm 1 rfl) f_NO_FAULT) (nomark _)) (pss_one (ps_ret (pe_lst (pa_cons (agi o0 n0 (gm 2 rfl) f_PARSE_ERROR) (pa_nil))))) (pss_nil)) (pss_cons (ps_fld (av o0 n0 0 (gm 2 rfl) rfl) (amake o0 n0 c_Deal (pa_cons (av o0 n0 2 (gm 3 rfl) rfl) (pa_nil)) (gm 3 rfl)) rfl) (pss_cons (ps_fld (av o0 n0 0 (gm 2 rfl) rfl) (pe_lst (pa_nil)) rfl) (pss_one (ps_ret (pe_lst (pa_cons (pe_int) (pa_cons (acb o0 n0 call_len_seq (by decide +kernel) (pa_cons (pe_fld (av o0 n0 2 (gm 3 rfl) rfl) rfl) (pa_nil)) (gm 4 rfl) f_len) (pa_cons (acb o0 n0 call_len_seq (by decide +kernel) (pa_cons (acall o0 n0 c_cards_on (pa_cons (av o0 n0 2 (gm 3 rfl) rfl) (pa_nil)) (gm 5 rfl)) (pa_nil)) (gm 4 rfl) f_len) (pa_cons (acall o0 n0 c_total_of (pa_cons (pe_fld (av o0 n0 0 (gm 2 rfl) rfl) rfl) (pa_nil)) (gm 6 rfl)) (pa_nil)))))))))))
theorem ev_load_deal (C : Ctx K mg) : ∀ a : TSt × List Nat, a.2.length ≤ 5000 → ∀ W0 x, Rt (t_load_deal K) (envT ["table", "text", "sheet", "fault"] K W0 x a.1 [dNs a.2]) W0 (rT K W0 x (dIs (loadP a.1 a.2).2) (loadP a.1 a.2).1) := fun ⟨s, t⟩ h W x => by
  dsimp only at h ⊢
  have hok := read_ok (t := t)
  unfold loadP
  refine rt_seq (nx_asg (f := fun G => (G.set 2 (some (.pl (dSheet K (readD t).2)))).set 3 (some (.pl (dFt K (readD t).1)))) (js := [2, 3]) (ev_call t h (ea_cons ev_var ea_nil)) (tg_tup (n := 2) (tgs_cons tg_name (tgs_cons tg_name tgs_nil)))) ?_
  generalize (readD t).2 = y at hok ⊢
  generalize (readD t).1 = f at hok ⊢
  by_cases e : f = (0, 0)
  · have o := hok e
    rw [if_pos e]
    refine rt_ifR (b := false) ((et_test (ev_neNo C ev_var)).to (by rw [decide_eq_true e]; rfl)) (fun h => nomatch h) fun _ => ?_
    refine rt_seq (nx_dealT C (s := s) rfl rfl ((evM_make y ⟨⟨fun z hz => (o.ranks z hz).2.1, o.ranksNd⟩, o.n4⟩ (ea_cons (ev_var (i := 2)) ea_nil)).ev)) ?_
    refine rt_seq (nx_playT C (l := []) rfl rfl (EvO.ev (evO_lst ea_nil))) ?_
    have hc := deal_cards o
    refine rt_retT rfl (Ev.to (EvO.ev (evO_lst (ea_cons ev_c (ea_cons (ev_lenM (evs C (x := y) (ev_var (i := 2)) fn_Sheet_hands rfl)) (ea_cons (ev_lenM (EvO.ev (evO_call y (by show (Vbndao.allCards y).length ≤ 100000; omega) (ea_cons (ev_var (i := 2)) ea_nil)))) (ea_cons (ev_call y o (ea_cons (ev_dealT C (h := ⟨y, []⟩) rfl) ea_nil)) ea_nil)))))) rfl)
  · rw [if_neg e]
    exact rt_ifR (b := true) ((et_test (ev_neNo C ev_var)).to (by rw [decide_eq_false e]; rfl)) (fun _ => rt_retT rfl (Ev.to (EvO.ev (evO_lst (ea_cons ev_c ea_nil))) rfl)) fun h => nomatch h
theorem ok_load_deal {P : Program} {w : World} {K : PySem.W.Frag} {mg : Str → Option Value} {base : Heap} (C : Ctx K mg) : Ok P w K mg base 8 "load_deal" ["table", "text"] (sp_load_deal K) :=
  ok_gen C 74 rfl rfl sc_load_deal fg_load_deal (fun _ _ _ _ _ _ hr o => dv_load_deal o (fun _ => rfl) ((ok_read_deal C).cal hr (by decide)) ((okM_Deal C).mak hr (by decide)) ((ok_cards_on C).cal hr (by decide)) ((ok_total_of C).cal hr (by decide))) (fun _ _ _ _ _ _ us hl => match us, hl with | [_, _], _ => rfl) (len_T fun _ => rfl) fun _ _ _ _ h => reads_T (ev_load_deal C) h
def playP (h : WSp) (c : Nat) : TSt × List Int := if (Vbndao.legalCards h.deal (posOf h)).contains c = true then (some ⟨h.deal, h.history ++ [c]⟩, 0 :: turnL (runTo h.deal (Vbndao.initialPosition h.deal) (h.history ++ [c]))) else (some h, [-4])
def sp_play_card (K : PySem.W.Frag) : Sp := spT K (fun a : WSp × Nat => WOk a.1) (fun a => [dPos K (posOf a.1), dN a.2]) (fun a => dIs (playP a.1 a.2).2) (fun a => some a.1) (fun a => (playP a.1 a.2).1)
/-! play_card -/
def N_play_card : List Str := ["table", "here", "card"]
theorem sc_play_card : FnScope ["table", "here", "card"] ["table", "here", "card"] (defScope s_play_card) := ⟨rfl, rfl, rfl, by decide +kernel, rfl, by decide +kernel, by decide +kernel⟩
theorem nm_play_card : nmB ["table", "here", "card"] (defScope s_play_card) [2, 0, 1] [] ["legal_cards", "NOT_LEGAL", "position_after", "turn_information"] = true := by decide +kernel
def t_play_card (K : PySem.W.Frag) : TS := tSeq (tIfS (tTest (tOp (rIn K true) (tVar 2) (tCall (sp_legal_cards K) [] E0 (tCons (tFld K (tVar 0) "deal") (tCons (tVar 1) (tNil)))))) (tRet (tLst (tCons (tC (.int (-4))) (tNil)))) (tNext)) (tSeq (sFld K (tVar 0) (tOp rCat (tFld K (tVar 0) "played") (tLst (tCons (tVar 2) (tNil)))) "played") (tRet (tOp rCat (tLst (tCons (tC (.int 0)) (tNil))) (tCall (sp_turn_information K) [] E0 (tCons (tCall (sp_position_after K) [] E0 (tCons (tFld K (tVar 0) "deal") (tCons (tFld K (tVar 0) "played") (tNil)))) (tNil))))))
theorem dv_play_card {X : Cx} (o0 : On fa X ["table", "here", "card"] (defScope s_play_card)) (hf : ∀ x, X.fn x = true) (c_legal_cards : Cal X "legal_cards" (sp_legal_cards X.K)) (c_position_after : Cal X "position_after" (sp_position_after X.K)) (c_turn_information : Cal X "turn_information" (sp_turn_information X.K)) : PSs X (defBody s_play_card) (t_play_card X.K) := by
  have n0 := nm_play_card
  exact pss_cons (ps_if (pt_cmpR op_notIn_seq (av o0 n0 2 (gm 0 rfl) rfl) (acall o0 n0 c_legal_cards (pa_cons (pe_fld (av o0 n0 0 (gm 1 rfl) rfl) rfl) (pa_cons (av o0 n0 1 (gm 2 rfl) rfl) (pa_nil))) (gm 0 rfl)) (by with_unfolding_all rfl)) (pss_one (ps_ret (pe_lst (pa_cons (agi o0 n0 (gm 1 rfl) f_NOT_LEGAL) (pa_nil))))) (pss_nil)) (pss_cons (ps_fld (av o0 n0 0 (gm 1 rfl) rfl) (pe_op op_cat (pe_fld (av o0 n0 0 (gm 1 rfl) rfl) rfl) (pe_lst (pa_cons (av o0 n0 2 (gm 0 rfl) rfl) (pa_nil)))) rfl) (pss_one (ps_ret (pe_op op_cat (pe_lst (pa_cons (pe_int) (pa_nil))) (acall o0 n0 c_turn_information (pa_cons (acall o0 n0 c_position_after (pa_cons (pe_fld (av o0 n0 0 (gm 1 rfl) rfl) rfl) (pa_cons (pe_fld (av o0 n0 0 (gm 1 rfl) rfl) rfl) (pa_nil))) (gm 2 rfl)) (pa_nil)) (gm 3 rfl))))))
theorem turn_ok {x : Deal} {p : Position} (g : Good x p) : 0 < p.hands.length ∧ p.hands.length ≤ 4 := by
  have := g.hands
  have := g.n2
  have := g.n4
  omega
theorem ev_play_card (C : Ctx K mg) : ∀ a : WSp × Nat, WOk a.1 → ∀ W0 x, Rt (t_play_card K) (envT ["table", "here", "card"] K W0 x (some a.1) [dPos K (posOf a.1), dN a.2]) W0 (rT K W0 x (dIs (playP a.1 a.2).2) (playP a.1 a.2).1) := fun ⟨h, c⟩ o W x => by
  dsimp only at o ⊢
  have g := pos_good o
  have hl := hist_len o
  unfold playP
  have tst : EvT (tTest (tOp (rIn K true) (tVar 2) (tCall (sp_legal_cards K) [] E0 (tCons (tFld K (tVar 0) "deal") (tCons (tVar 1) (tNil)))))) (envT ["table", "here", "card"] K W x (some h) [dPos K (posOf h), dN c]) W (!(Vbndao.legalCards h.deal (posOf h)).contains c) :=
    et_test (ev_niM ev_var (ev_call (h.deal, posOf h) g (ea_cons (ev_dealT C rfl) (ea_cons ev_var ea_nil))))
  by_cases e : (Vbndao.legalCards h.deal (posOf h)).contains c = true
  · rw [if_pos e]
    have hr : Run h.deal (Vbndao.initialPosition h.deal) (h.history ++ [c]) := run_app o.2 (List.contains_iff_mem.mp e)
    refine rt_ifR (b := false) (tst.to (by rw [e]; rfl)) (fun h => nomatch h) fun _ => ?_
    refine rt_seq (nx_playT C (x := h.deal) (l0 := h.history) (l := h.history ++ [c]) rfl rfl (Ev.to (EvO.ev (evO_cat (ev_playT C rfl) (EvO.ev (evO_lst (ea_cons ev_var ea_nil))) (by rw [List.length_map]; exact szk (by show _ + 1 ≤ _; omega)))) (by show _ = dL (List.map dN (h.history ++ [c])); rw [List.map_append]; rfl))) ?_
    exact rt_retT rfl (EvO.ev (evO_zero (ev_call (runTo h.deal (Vbndao.initialPosition h.deal) (h.history ++ [c])) (turn_ok (run_good (good_start o.1) hr).1) (ea_cons (ev_call (h.deal, h.history ++ [c]) ⟨o.1, hr⟩ (ea_cons (ev_dealT C (h := ⟨h.deal, h.history ++ [c]⟩) rfl) (ea_cons (ev_playT C (h := ⟨h.deal, h.history ++ [c]⟩) rfl) ea_nil))) ea_nil)) (by show 3 ≤ _; omega)))
  · rw [if_neg e]
    exact rt_ifR (b := true) (tst.to (by rw [Bool.eq_false_iff.mpr e]; rfl)) (fun _ => rt_retT rfl (Ev.to (EvO.ev (evO_lst (ea_cons ev_c ea_nil))) rfl)) fun h => nomatch h
theorem ok_play_card {P : Program} {w : World} {K : PySem.W.Frag} {mg : Str → Option Value} {base : Heap} (C : Ctx K mg) : Ok P w K mg base 6 "play_card" ["table", "here", "card"] (sp_play_card K) :=
  ok_gen C 76 rfl rfl sc_play_card fg_play_card (fun _ _ _ _ _ _ hr o => dv_play_card o (fun _ => rfl) ((ok_legal_cards C).cal hr (by decide)) ((ok_position_after C).cal hr (by decide)) ((ok_turn_information C).cal hr (by decide))) (fun _ _ _ _ _ _ us hl => match us, hl with | [_, _, _], _ => rfl) (len_T fun _ => rfl) fun _ _ _ _ h => reads_T (ev_play_card C) h
def backP (h : WSp) (k : Nat) : TSt × List Int := if k > h.history.length then (some h, [-4]) else (some ⟨h.deal, h.history.take k⟩, 0 :: turnL (runTo h.deal (Vbndao.initialPosition h.deal) (h.history.take k)))
def sp_take_back (K : PySem.W.Frag) : Sp := spT K (fun a : WSp × Nat => WOk a.1) (fun a => [dN a.2]) (fun a => dIs (backP a.1 a.2).2) (fun a => some a.1) (fun a => (backP a.1 a.2).1)
/-! take_back -/
def N_take_back : List Str := ["table", "number"]
theorem sc_take_back : FnScope ["table", "number"] ["table", "number"] (defScope s_take_back) := ⟨rfl, rfl, rfl, by decide +kernel, rfl, by decide +kernel, by decide +kernel⟩
theorem nm_take_back : nmB ["table", "number"] (defScope s_take_back) [1, 0] [] ["len", "NOT_LEGAL", "position_after", "turn_information"] = true := by decide +kernel
def t_take_back (K : PySem.W.Frag) : TS := tSeq (tIfS (tTest (tOp oGt (tVar 1) (tCB (cLen K) (tCons (tFld K (tVar 0) "played") (tNil))))) (tRet (tLst (tCons (tC (.int (-4))) (tNil)))) (tNext)) (tSeq (sFld K (tVar 0) (tSl (rSlL K) (tFld K (tVar 0) "played") (tNoPart) (tPart (tVar 1))) "played") (tRet (tOp rCat (tLst (tCons (tC (.int 0)) (tNil))) (tCall (sp_turn_information K) [] E0 (tCons (tCall (sp_position_after K) [] E0 (tCons (tFld K (tVar 0) "deal") (tCons (tFld K (tVar 0) "played") (tNil)))) (tNil))))))
theorem dv_take_back {X : Cx} (o0 : On fa X ["table", "number"] (defScope s_take_back)) (hf : ∀ x, X.fn x = true) (c_position_after : Cal X "position_after" (sp_position_after X.K)) (c_turn_information : Cal X "turn_information" (sp_turn_information X.K)) : PSs X (defBody s_take_back) (t_take_back X.K) := by
  have n0 := nm_take_back
  exact pss_cons (ps_if (pt_cmpR op_gt (av o0 n0 1 (gm 0 rfl) rfl) (acb o0 n0 call_len_seq (by decide +kernel) (pa_cons (pe_fld (av o0 n0 0 (gm 1 rfl) rfl) rfl) (pa_nil)) (gm 0 rfl) f_len) (nomark _)) (pss_one (ps_ret (pe_lst (pa_cons (agi o0 n0 (gm 1 rfl) f_NOT_LEGAL) (pa_nil))))) (pss_nil)) (pss_cons (ps_fld (av o0 n0 0 (gm 1 rfl) rfl) (pe_slice sl_list (pe_fld (av o0 n0 0 (gm 1 rfl) rfl) rfl) (po_none) (po_some (av o0 n0 1 (gm 0 rfl) rfl))) rfl) (pss_one (ps_ret (pe_op op_cat (pe_lst (pa_cons (pe_int) (pa_nil))) (acall o0 n0 c_turn_information (pa_cons (acall o0 n0 c_position_after (pa_cons (pe_fld (av o0 n0 0 (gm 1 rfl) rfl) rfl) (pa_cons (pe_fld (av o0 n0 0 (gm 1 rfl) rfl) rfl) (pa_nil))) (gm 2 rfl)) (pa_nil)) (gm 3 rfl))))))
theorem ev_take_back (C : Ctx K mg) : ∀ a : WSp × Nat, WOk a.1 → ∀ W0 x, Rt (t_take_back K) (envT ["table", "number"] K W0 x (some a.1) [dN a.2]) W0 (rT K W0 x (dIs (backP a.1 a.2).2) (backP a.1 a.2).1) := fun ⟨h, k⟩ o W x => by
  dsimp only at o ⊢
  unfold backP
  refine rt_ifR (b := decide (k > h.history.length)) ((et_test (ev_I0 ev_var (ev_lenM (ev_playT C rfl)))).to (decide_eq_decide.mpr (by show ((h.history.length : Nat) : Int) < (k : Int) ↔ _; omega))) (fun e => ?_) fun e => ?_
  · rw [if_pos (of_decide_eq_true e)]
    exact rt_retT rfl (Ev.to (EvO.ev (evO_lst (ea_cons ev_c ea_nil))) rfl)
  · rw [if_neg (of_decide_eq_false e)]
    have hr : Run h.deal (Vbndao.initialPosition h.deal) (h.history.take k) := run_take k o.2
    refine rt_seq (nx_playT C (x := h.deal) (l0 := h.history) (l := h.history.take k) rfl rfl (Ev.to (EvO.ev (evO_slL (lo := none) (hi := some (k : Int)) (ev_playT C rfl) evp_no (evp_some ev_var))) (by rw [cut_to]))) ?_
    exact rt_retT rfl (EvO.ev (evO_zero (ev_call (runTo h.deal (Vbndao.initialPosition h.deal) (h.history.take k)) (turn_ok (run_good (good_start o.1) hr).1) (ea_cons (ev_call (h.deal, h.history.take k) ⟨o.1, hr⟩ (ea_cons (ev_dealT C (h := ⟨h.deal, h.history.take k⟩) rfl) (ea_cons (ev_playT C (h := ⟨h.deal, h.history.take k⟩) rfl) ea_nil))) ea_nil)) (by show 3 ≤ _; omega)))
theorem ok_take_back {P : Program} {w : World} {K : PySem.W.Frag} {mg : Str → Option Value} {base : Heap} (C : Ctx K mg) : Ok P w K mg base 6 "take_back" ["table", "number"] (sp_take_back K) :=
  ok_gen C 77 rfl rfl sc_take_back fg_take_back (fun _ _ _ _ _ _ hr o => dv_take_back o (fun _ => rfl) ((ok_position_after C).cal hr (by decide)) ((ok_turn_information C).cal hr (by decide))) (fun _ _ _ _ _ _ us hl => match us, hl with | [_, _], _ => rfl) (len_T fun _ => rfl) fun _ _ _ _ h => reads_T (ev_take_back C) h
def sumM (h : WSp) : List Int := [0, (h.deal.seats.length : Int), ((Vbndao.allCards h.deal).length : Int), (h.history.length : Int), (Vbndao.cardsToPlay (posOf h) : Int), (totalOf h.deal : Int)]
def sp_told_summary (K : PySem.W.Frag) : Sp := spT K (fun a : WSp => WOk a) (fun a => [dPos K (posOf a)]) (fun a => dIs (sumM a)) (fun a => some a) (fun a => some a)
/-! told_summary -/
def N_told_summary : List Str := ["table", "here", "deal", "cards"]
theorem sc_told_summary : FnScope ["table", "here", "deal", "cards"] ["table", "here"] (defScope s_told_summary) := ⟨rfl, rfl, rfl, by decide +kernel, rfl, by decide +kernel, by decide +kernel⟩
theorem nm_told_summary : nmB ["table", "here", "deal", "cards"] (defScope s_told_summary) [0, 2, 3, 1] [2, 3] ["cards_on", "len", "cards_left", "total_of"] = true := by decide +kernel
def t_told_summary (K : PySem.W.Frag) : TS := tSeq (tAsg (tFld K (tVar 0) "deal") (gName 2)) (tSeq (tAsg (tCB (cLen K) (tCons (tCall (sp_cards_on K) [] E0 (tCons (tFld K (tVar 2) "sheet") (tNil))) (tNil))) (gName 3)) (tRet (tLst (tCons (tC (.int 0)) (tCons (tCB (cLen K) (tCons (tFld K (tVar 2) "hands") (tNil))) (tCons (tVar 3) (tCons (tCB (cLen K) (tCons (tFld K (tVar 0) "played") (tNil))) (tCons (tCall (sp_cards_left K) [] E0 (tCons (tVar 1) (tNil))) (tCons (tCall (sp_total_of K) [] E0 (tCons (tVar 2) (tNil))) (tNil))))))))))
theorem dv_told_summary {X : Cx} (o0 : On fa X ["table", "here", "deal", "cards"] (defScope s_told_summary)) (hf : ∀ x, X.fn x = true) (c_cards_on : Cal X "cards_on" (sp_cards_on X.K)) (c_cards_left : Cal X "cards_left" (sp_cards_left X.K)) (c_total_of : Cal X "total_of" (sp_total_of X.K)) : PSs X (defBody s_told_summary) (t_told_summary X.K) := by
  have n0 := nm_told_summary
  exact pss_cons (aset o0 n0 hf 2 (pe_fld (av o0 n0 0 (gm 0 rfl) rfl) rfl) (gm 0 rfl) rfl) (pss_cons (aset o0 n0 hf 3 (acb o0 n0 call_len_seq (by decide +kernel) (pa_cons (acall o0 n0 c_cards_on (pa_cons (pe_fld (av o0 n0 2 (gm 1 rfl) rfl) rfl) (pa_nil)) (gm 0 rfl)) (pa_nil)) (gm 1 rfl) f_len) (gm 1 rfl) rfl) (pss_one (ps_ret (pe_lst (pa_cons (pe_int) (pa_cons (acb o0 n0 call_len_seq (by decide +kernel) (pa_cons (pe_fld (av o0 n0 2 (gm 1 rfl) rfl) rfl) (pa_nil)) (gm 1 rfl) f_len) (pa_cons (av o0 n0 3 (gm 2 rfl) rfl) (pa_cons (acb o0 n0 call_len_seq (by decide +kernel) (pa_cons (pe_fld (av o0 n0 0 (gm 0 rfl) rfl) rfl) (pa_nil)) (gm 1 rfl) f_len) (pa_cons (acall o0 n0 c_cards_left (pa_cons (av o0 n0 1 (gm 3 rfl) rfl) (pa_nil)) (gm 2 rfl)) (pa_cons (acall o0 n0 c_total_of (pa_cons (av o0 n0 2 (gm 1 rfl) rfl) (pa_nil)) (gm 3 rfl)) (pa_nil)))))))))))
theorem ev_told_summary (C : Ctx K mg) : ∀ a : WSp, WOk a → ∀ W0 x, Rt (t_told_summary K) (envT ["table", "here", "deal", "cards"] K W0 x (some a) [dPos K (posOf a)]) W0 (rT K W0 x (dIs (sumM a)) (some a)) := fun h o W x => by
  have g := pos_good o
  have hc := deal_cards o.1
  refine rt_seq (nx_set (ev_dealT C rfl)) ?_
  refine rt_seq (nx_set (ev_lenM (l := Vbndao.allCards h.deal) (f := dN) (EvO.ev (evO_call h.deal (by show (Vbndao.allCards h.deal).length ≤ 100000; omega) (ea_cons (evd C (x := h.deal) ev_var fn_Deal_sheet rfl) ea_nil))))) ?_
  exact rt_retT rfl (Ev.to (EvO.ev (evO_lst (ea_cons ev_c (ea_cons (ev_lenM (evd C (x := h.deal) ev_var fn_Deal_hands rfl)) (ea_cons ev_var (ea_cons (ev_lenM (ev_playT C rfl)) (ea_cons (ev_left g ev_var) (ea_cons (ev_call h.deal o.1 (ea_cons ev_var ea_nil)) ea_nil)))))))) rfl)
theorem ok_told_summary {P : Program} {w : World} {K : PySem.W.Frag} {mg : Str → Option Value} {base : Heap} (C : Ctx K mg) : Ok P w K mg base 3 "told_summary" ["table", "here"] (sp_told_summary K) :=
  ok_gen C 83 rfl rfl sc_told_summary fg_told_summary (fun _ _ _ _ _ _ hr o => dv_told_summary o (fun _ => rfl) ((ok_cards_on C).cal hr (by decide)) ((ok_cards_left C).cal hr (by decide)) ((ok_total_of C).cal hr (by decide))) (fun _ _ _ _ _ _ us hl => match us, hl with | [_, _], _ => rfl) (len_T fun _ => rfl) fun _ _ _ _ h => reads_T (ev_told_summary C) h
def shownM (h : WSp) (op : Int) : List Int := if op = 2 then 0 :: Vbndao.withLength (Vbndao.printDeal h.deal) else if op = 5 then posM (posOf h) else if op = 6 then 0 :: Vbndao.withLength (Vbndao.legalCards h.deal (posOf h)) else if op = 16 then 0 :: Vbndao.withLength (repP h.deal (posOf h)) else if op = 17 then 0 :: Vbndao.withLength h.history else sumM h
def sp_shown (K : PySem.W.Frag) : Sp := spT K (fun a : WSp × Int => WOk a.1) (fun a => [dPos K (posOf a.1), dI a.2]) (fun a => dIs (shownM a.1 a.2)) (fun a => some a.1) (fun a => some a.1)
/-! shown -/
def N_shown : List Str := ["table", "here", "operation"]
theorem sc_shown : FnScope ["table", "here", "operation"] ["table", "here", "operation"] (defScope s_shown) := ⟨rfl, rfl, rfl, by decide +kernel, rfl, by decide +kernel, by decide +kernel⟩
theorem nm_shown : nmB ["table", "here", "operation"] (defScope s_shown) [2, 0, 1] [] ["printed_form", "listed", "told_position", "legal_cards", "representatives", "told_summary"] = true := by decide +kernel
def t_shown (K : PySem.W.Frag) : TS := tSeq (tIfS (tTest (tOp rEq (tVar 2) (tC (.int 2)))) (tRet (tOp rCat (tLst (tCons (tC (.int 0)) (tNil))) (tCall (sp_listed K) [] E0 (tCons (tCall (sp_printed_form K) [] E0 (tCons (tFld K (tFld K (tVar 0) "deal") "sheet") (tNil))) (tNil))))) (tNext)) (tSeq (tIfS (tTest (tOp rEq (tVar 2) (tC (.int 5)))) (tRet (tCall (sp_told_position K) [] E0 (tCons (tVar 1) (tNil)))) (tNext)) (tSeq (tIfS (tTest (tOp rEq (tVar 2) (tC (.int 6)))) (tRet (tOp rCat (tLst (tCons (tC (.int 0)) (tNil))) (tCall (sp_listed K) [] E0 (tCons (tCall (sp_legal_cards K) [] E0 (tCons (tFld K (tVar 0) "deal") (tCons (tVar 1) (tNil)))) (tNil))))) (tNext)) (tSeq (tIfS (tTest (tOp rEq (tVar 2) (tC (.int 16)))) (tRet (tOp rCat (tLst (tCons (tC (.int 0)) (tNil))) (tCall (sp_listed K) [] E0 (tCons (tCall (sp_representatives K) [] E0 (tCons (tFld K (tVar 0) "deal") (tCons (tVar 1) (tNil)))) (tNil))))) (tNext)) (tSeq (tIfS (tTest (tOp rEq (tVar 2) (tC (.int 17)))) (tRet (tOp rCat (tLst (tCons (tC (.int 0)) (tNil))) (tCall (sp_listed K) [] E0 (tCons (tFld K (tVar 0) "played") (tNil))))) (tNext)) (tRet (tCall (sp_told_summary K) [] E0 (tCons (tVar 0) (tCons (tVar 1) (tNil)))))))))
theorem dv_shown {X : Cx} (o0 : On fa X ["table", "here", "operation"] (defScope s_shown)) (hf : ∀ x, X.fn x = true) (c_printed_form : Cal X "printed_form" (sp_printed_form X.K)) (c_listed : Cal X "listed" (sp_listed X.K)) (c_told_position : Cal X "told_position" (sp_told_position X.K)) (c_legal_cards : Cal X "legal_cards" (sp_legal_cards X.K)) (c_representatives : Cal X "representatives" (sp_representatives X.K)) (c_told_summary : Cal X "told_summary" (sp_told_summary X.K)) : PSs X (defBody s_shown) (t_shown X.K) := by
  have n0 := nm_shown
  exact pss_cons (ps_if (pt_cmpR op_eq (av o0 n0 2 (gm 0 rfl) rfl) (pe_int) (nomark _)) (pss_one (ps_ret (pe_op op_cat (pe_lst (pa_cons (pe_int) (pa_nil))) (acall o0 n0 c_listed (pa_cons (acall o0 n0 c_printed_form (pa_cons (pe_fld (pe_fld (av o0 n0 0 (gm 1 rfl) rfl) rfl) rfl) (pa_nil)) (gm 0 rfl)) (pa_nil)) (gm 1 rfl))))) (pss_nil)) (pss_cons (ps_if (pt_cmpR op_eq (av o0 n0 2 (gm 0 rfl) rfl) (pe_int) (nomark _)) (pss_one (ps_ret (acall o0 n0 c_told_position (pa_cons (av o0 n0 1 (gm 2 rfl) rfl) (pa_nil)) (gm 2 rfl)))) (pss_nil)) (pss_cons (ps_if (pt_cmpR op_eq (av o0 n0 2 (gm 0 rfl) rfl) (pe_int) (nomark _)) (pss_one (ps_ret (pe_op op_cat (pe_lst (pa_cons (pe_int) (pa_nil))) (acall o0 n0 c_listed (pa_cons (acall o0 n0 c_legal_cards (pa_cons (pe_fld (av o0 n0 0 (gm 1 rfl) rfl) rfl) (pa_cons (av o0 n0 1 (gm 2 rfl) rfl) (pa_nil))) (gm 3 rfl)) (pa_nil)) (gm 1 rfl))))) (pss_nil)) (pss_cons (ps_if (pt_cmpR op_eq (av o0 n0 2 (gm 0 rfl) rfl) (pe_int) (nomark _)) (pss_one (ps_ret (pe_op op_cat (pe_lst (pa_cons (pe_int) (pa_nil))) (acall o0 n0 c_listed (pa_cons (acall o0 n0 c_representatives (pa_cons (pe_fld (av o0 n0 0 (gm 1 rfl) rfl) rfl) (pa_cons (av o0 n0 1 (gm 2 rfl) rfl) (pa_nil))) (gm 4 rfl)) (pa_nil)) (gm 1 rfl))))) (pss_nil)) (pss_cons (ps_if (pt_cmpR op_eq (av o0 n0 2 (gm 0 rfl) rfl) (pe_int) (nomark _)) (pss_one (ps_ret (pe_op op_cat (pe_lst (pa_cons (pe_int) (pa_nil))) (acall o0 n0 c_listed (pa_cons (pe_fld (av o0 n0 0 (gm 1 rfl) rfl) rfl) (pa_nil)) (gm 1 rfl))))) (pss_nil)) (pss_one (ps_ret (acall o0 n0 c_told_summary (pa_cons (av o0 n0 0 (gm 1 rfl) rfl) (pa_cons (av o0 n0 1 (gm 2 rfl) rfl) (pa_nil))) (gm 5 rfl))))))))
theorem print_small {x : Deal} (o : DealOk x) : (Vbndao.printDeal x).length ≤ 80000 := by
  rw [print_lines]
  have h1 := lines_len o
  have h2 := lines_ok o
  generalize linesOf x = L at h1 h2 ⊢
  have : ∀ L : List (List Nat), (∀ l ∈ L, l.length ≤ 200) → (L.flatMap fun l => l ++ [10]).length ≤ L.length * 201 := by
    intro L
    induction L with
    | nil => intro _; simp
    | cons l r ih =>
      intro h
      rw [List.flatMap_cons, List.length_append, List.length_append]
      have := ih fun l hl => h l (List.mem_cons_of_mem _ hl)
      have := h l List.mem_cons_self
      show l.length + 1 + _ ≤ (r.length + 1) * 201
      omega
  have := this L h2
  have : L.length * 201 ≤ 25 * 201 := Nat.mul_le_mul_right _ h1
  omega
theorem ev_shown (C : Ctx K mg) : ∀ a : WSp × Int, WOk a.1 → ∀ W0 x, Rt (t_shown K) (envT ["table", "here", "operation"] K W0 x (some a.1) [dPos K (posOf a.1), dI a.2]) W0 (rT K W0 x (dIs (shownM a.1 a.2)) (some a.1)) := fun ⟨h, op⟩ o W x => by
  dsimp only at o ⊢
  have g := pos_good o
  have hl := hist_len o
  have h4 := legal_le g
  unfold shownM
  refine rt_ifR (et_test (ev_eqI ev_var ev_c)) (fun e => ?_) fun e => ?_
  · rw [if_pos (of_decide_eq_true e)]
    have := print_small o.1
    exact rt_retT rfl (EvO.ev (evO_zero (EvO.ev (evO_listed (ev_call h.deal o.1 (ea_cons (evd C (ev_dealT C rfl) fn_Deal_sheet rfl) ea_nil)) (by omega))) (by rw [withLen]; omega)))
  rw [if_neg (of_decide_eq_false e)]
  clear e
  refine rt_ifR (et_test (ev_eqI ev_var ev_c)) (fun e => ?_) fun e => ?_
  · rw [if_pos (of_decide_eq_true e)]
    exact rt_retT rfl (EvO.ev (evO_call (h.deal, posOf h) g (ea_cons ev_var ea_nil)))
  rw [if_neg (of_decide_eq_false e)]
  clear e
  refine rt_ifR (et_test (ev_eqI ev_var ev_c)) (fun e => ?_) fun e => ?_
  · rw [if_pos (of_decide_eq_true e)]
    exact rt_retT rfl (EvO.ev (evO_zero (EvO.ev (evO_listed (ev_call (h.deal, posOf h) g (ea_cons (ev_dealT C rfl) (ea_cons ev_var ea_nil))) (by omega))) (by rw [withLen]; omega)))
  rw [if_neg (of_decide_eq_false e)]
  clear e
  refine rt_ifR (et_test (ev_eqI ev_var ev_c)) (fun e => ?_) fun e => ?_
  · rw [if_pos (of_decide_eq_true e)]
    have hr : (repP h.deal (posOf h)).length ≤ 4 := Nat.le_trans (List.length_filter_le _ _) h4
    exact rt_retT rfl (EvO.ev (evO_zero (EvO.ev (evO_listed (EvO.ev (evO_call (h.deal, posOf h) g (ea_cons (ev_dealT C rfl) (ea_cons ev_var ea_nil)))) (by omega))) (by rw [withLen]; omega)))
  rw [if_neg (of_decide_eq_false e)]
  clear e
  refine rt_ifR (et_test (ev_eqI ev_var ev_c)) (fun e => ?_) fun e => ?_
  · rw [if_pos (of_decide_eq_true e)]
    exact rt_retT rfl (EvO.ev (evO_zero (EvO.ev (evO_listed (ev_playT C rfl) (by omega))) (by rw [withLen]; omega)))
  rw [if_neg (of_decide_eq_false e)]
  exact rt_callT h o rfl (ea_cons ev_var ea_nil)
theorem ok_shown {P : Program} {w : World} {K : PySem.W.Frag} {mg : Str → Option Value} {base : Heap} (C : Ctx K mg) : Ok P w K mg base 5 "shown" ["table", "here", "operation"] (sp_shown K) :=
  ok_gen C 86 rfl rfl sc_shown fg_shown (fun _ _ _ _ _ _ hr o => dv_shown o (fun _ => rfl) ((ok_printed_form C).cal hr (by decide)) ((ok_listed C).cal hr (by decide)) ((ok_told_position C).cal hr (by decide)) ((ok_legal_cards C).cal hr (by decide)) ((ok_representatives C).cal hr (by decide)) ((ok_told_summary C).cal hr (by decide))) (fun _ _ _ _ _ _ us hl => match us, hl with | [_, _, _], _ => rfl) (len_T fun _ => rfl) fun _ _ _ _ h => reads_T (ev_shown C) h
end
end Fd

namespace Fd
open PySem PySem.Spec PyProof.Rows L2
open Vbndao (Deal Position)
section
variable {P : Program} {w : World} {K : PySem.W.Frag} {mg : Str → Option Value} {base : Heap}
theorem ev_isNO {G : En} {W : Wd} {te : TE} {C : Addr} {fs : List (Str × Dsc)} (h : Ev te G W (dO C fs)) : Ev (tOp oIsN te (tC .non)) G W (dB false) := ev_op h ev_c fun W1 _ u v eu ev Q q => by
  obtain ⟨a, dx, vs, e, _⟩ := eu
  subst e
  cases ev
  exact ⟨rfl, by rw [decide_eq_false (fun k => by cases k)]; exact q _ W1 (Le.refl _) rfl⟩
theorem sqL_mono {F G : Hp} {a : Addr} {xs : List V} (e : Same F G) (h : SqL K F a xs) : SqL K G a xs := by
  rcases h with (h | ⟨o, h⟩) | h
  · exact .inl (.inl (e _ _ h))
  · exact .inl (.inr ⟨o, e _ _ h⟩)
  · exact .inr h
/-- a list as it is handed in: it never changes -/
def dQ (K : PySem.W.Frag) (ds : List Dsc) : Dsc := ⟨fun v F => ∃ p vs, v = .ref p ∧ SqL K F p vs ∧ AllD ds vs F, fun e ⟨p, vs, h1, h2, h3⟩ => ⟨p, vs, h1, sqL_mono e h2, h3.mono e⟩⟩
theorem ev_ixQ {G : En} {W : Wd} {ta tb : TE} {d : Dsc} {ds : List Dsc} {j : Nat} (ha : Ev ta G W (dQ K ds)) (hb : Ev tb G W (dI (j : Int))) (hd : ds[j]? = some d) : Ev (tOp (rIxL K) ta tb) G W d :=
  ev_op ha hb fun W1 _ x y ⟨p, vs, ex, hp, hv⟩ ey Q q => by
    obtain ⟨v, h1, h2⟩ := hv.get hd
    exact ⟨p, vs, _, v, ex, ey, sqL_mono W1.sub hp, atI_nat h1, q v W1 (Le.refl _) h2⟩
theorem ev_lenQ {G : En} {W : Wd} {te : TE} {ds : List Dsc} (h : Ev te G W (dQ K ds)) : Ev (tCB (cLen K) (tCons te tNil)) G W (dN ds.length) := by
  refine ev_cb (ea_cons h ea_nil) fun W1 _ vs a Q q => ?_
  obtain ⟨v, rfl, p, us, rfl, hp, hu⟩ := a.one
  exact ⟨p, us, rfl, .inl (sqL_mono W1.sub hp), q _ W1 (Le.refl _) (by rw [hu.len]; rfl)⟩
theorem evO_slQ {G : En} {W : Wd} {te : TE} {tl th : TO} {ds : List Dsc} {lo hi : Option Int} (h : Ev te G W (dQ K ds)) (hl : EvP tl G W lo) (hh : EvP th G W hi) : EvO (tSl (rSlL K) te tl th) G W (cutD ds lo hi) := fun σ W1 l s Q q =>
  h σ W1 l s _ fun v W2 l2 ⟨p, us, ev, hp, hu⟩ => hl σ W2 (l.trans l2) (s.mono l2) _ fun W3 l3 => hh σ W3 ((l.trans l2).trans l3) ((s.mono l2).mono l3) _ fun W4 l4 => by
    refine ⟨p, us, ev, sqL_mono W4.sub (sqL_mono (l3.trans l4).f hp), fun n hn => ?_⟩
    have l14 := (l2.trans l3).trans l4
    have hu4 := hu.mono (l3.trans l4).f
    refine q n (cutV us lo hi) (W4.own n _ (W4.freeF hn) noTup_lst) (l14.trans (Le.own hn noTup_lst)) (l14.h.free hn) (W4.freeF hn) upd_same ?_
    unfold cutV cutD
    rw [← hu4.len]
    exact (hu4.drop _).take _
def perf (s : TSt) (op : Int) (ns row : List Int) : TSt × List Int := if op = 0 then loadP s (Vbndao.toNats row) else if op = 1 then (s, checkM (Vbndao.toNats row)) else match s with
  | none => (none, [-2])
  | some h => if op = 3 then playP h (ns.getD 0 0).toNat else if op = 4 then backP h (ns.getD 0 0).toNat else if [11, 12, 13, 15].contains op = true then (some h, askedM h.deal (posOf h) op ns row) else if [7, 8, 9, 10, 14].contains op = true then (some h, foundM h.deal (posOf h) op) else (some h, shownM h op)
abbrev APerf := TSt × Int × List Int × List Int
abbrev domP (a : APerf) : List Dsc := [dI a.2.1, dIs a.2.2.1, dIs a.2.2.2]
def sp_performed (K : PySem.W.Frag) : Sp := spT K (fun a : APerf => StOk a.1 ∧ within a.2.1 a.2.2.1 a.2.2.2) domP (fun a => dIs (perf a.1 a.2.1 a.2.2.1 a.2.2.2).2) (fun a => a.1) (fun a => (perf a.1 a.2.1 a.2.2.1 a.2.2.2).1)
/-! performed -/
def N_performed : List Str := ["table", "operation", "numbers", "row", "here"]
theorem sc_performed : FnScope ["table", "operation", "numbers", "row", "here"] ["table", "operation", "numbers", "row"] (defScope s_performed) := ⟨rfl, rfl, rfl, by decide +kernel, rfl, by decide +kernel, by decide +kernel⟩
theorem nm_performed : nmB ["table", "operation", "numbers", "row", "here"] (defScope s_performed) [1, 0, 3, 4, 2] [4] ["LOAD_DEAL", "load_deal", "CHECK_DEAL", "check_deal", "NO_DEAL", "position_after", "play_card", "take_back", "asked_with", "found_out", "shown"] = true := by decide +kernel
def t_performed (K : PySem.W.Frag) : TS := tSeq (tIfS (tTest (tOp rEq (tVar 1) (tC (.int (0))))) (tRet (tCall (sp_load_deal K) [] E0 (tCons (tVar 0) (tCons (tVar 3) (tNil))))) (tNext)) (tSeq (tIfS (tTest (tOp rEq (tVar 1) (tC (.int (1))))) (tRet (tCall (sp_check_deal K) [] E0 (tCons (tVar 3) (tNil)))) (tNext)) (tSeq (tIfS (tTest (tOp oIsN (tFld K (tVar 0) "deal") (tC .non))) (tRet (tLst (tCons (tC (.int (-2))) (tNil)))) (tNext)) (tSeq (tAsg (tCall (sp_position_after K) [] E0 (tCons (tFld K (tVar 0) "deal") (tCons (tFld K (tVar 0) "played") (tNil)))) (gName 4)) (tSeq (tIfS (tTest (tOp rEq (tVar 1) (tC (.int 3)))) (tRet (tCall (sp_play_card K) [] E0 (tCons (tVar 0) (tCons (tVar 4) (tCons (tOp (rIxL K) (tVar 2) (tC (.int 0))) (tNil)))))) (tNext)) (tSeq (tIfS (tTest (tOp rEq (tVar 1) (tC (.int 4)))) (tRet (tCall (sp_take_back K) [] E0 (tCons (tVar 0) (tCons (tOp (rIxL K) (tVar 2) (tC (.int 0))) (tNil))))) (tNext)) (tSeq (tIfS (tTest (tOp (rIn K false) (tVar 1) (tTup (tCons (tC (.int 11)) (tCons (tC (.int 12)) (tCons (tC (.int 13)) (tCons (tC (.int 15)) (tNil)))))))) (tRet (tCall (sp_asked_with K) [] E0 (tCons (tFld K (tVar 0) "deal") (tCons (tVar 4) (tCons (tVar 1) (tCons (tVar 2) (tCons (tVar 3) (tNil)))))))) (tNext)) (tSeq (tIfS (tTest (tOp (rIn K false) (tVar 1) (tTup (tCons (tC (.int 7)) (tCons (tC (.int 8)) (tCons (tC (.int 9)) (tCons (tC (.int 10)) (tCons (tC (.int 14)) (tNil))))))))) (tRet (tCall (sp_found_out K) [] E0 (tCons (tFld K (tVar 0) "deal") (tCons (tVar 4) (tCons (tVar 1) (tNil)))))) (tNext)) (tRet (tCall (sp_shown K) [] E0 (tCons (tVar 0) (tCons (tVar 4) (tCons (tVar 1) (tNil)))))))))))))
theorem dv_performed {X : Cx} (o0 : On fa X ["table", "operation", "numbers", "row", "here"] (defScope s_performed)) (hf : ∀ x, X.fn x = true) (c_load_deal : Cal X "load_deal" (sp_load_deal X.K)) (c_check_deal : Cal X "check_deal" (sp_check_deal X.K)) (c_position_after : Cal X "position_after" (sp_position_after X.K)) (c_play_card : Cal X "play_card" (sp_play_card X.K)) (c_take_back : Cal X "take_back" (sp_take_back X.K)) (c_asked_with : Cal X "asked_with" (sp_asked_with X.K)) (c_found_out : Cal X "found_out" (sp_found_out X.K)) (c_shown : Cal X "shown" (sp_shown X.K)) : PSs X (defBody s_performed) (t_performed X.K) := by
  have n0 := nm_performed
  exact pss_cons (ps_if (pt_cmpR op_eq (av o0 n0 1 (gm 0 rfl) rfl) (agi o0 n0 (gm 0 rfl) f_LOAD_DEAL) (nomark _)) (pss_one (ps_ret (acall o0 n0 c_load_deal (pa_cons (av o0 n0 0 (gm 1 rfl) rfl) (pa_cons (av o0 n0 3 (gm 2 rfl) rfl) (pa_nil))) (gm 1 rfl)))) (pss_nil)) (pss_cons (ps_if (pt_cmpR op_eq (av o0 n0 1 (gm 0 rfl) rfl) (agi o0 n0 (gm 2 rfl) f_CHECK_DEAL) (nomark _)) (pss_one (ps_ret (acall o0 n0 c_check_deal (pa_cons (av o0 n0 3 (gm 2 rfl) rfl) (pa_nil)) (gm 3 rfl)))) (pss_nil)) (pss_cons (ps_if (pt_cmpR op_isN (pe_fld (av o0 n0 0 (gm 1 rfl) rfl) rfl) (pe_non) (nomark _)) (pss_one (ps_ret (pe_lst (pa_cons (agi o0 n0 (gm 4 rfl) f_NO_DEAL) (pa_nil))))) (pss_nil)) (pss_cons (aset o0 n0 hf 4 (acall o0 n0 c_position_after (pa_cons (pe_fld (av o0 n0 0 (gm 1 rfl) rfl) rfl) (pa_cons (pe_fld (av o0 n0 0 (gm 1 rfl) rfl) rfl) (pa_nil))) (gm 5 rfl)) (gm 0 rfl) rfl) (pss_cons (ps_if (pt_cmpR op_eq (av o0 n0 1 (gm 0 rfl) rfl) (pe_int) (nomark _)) (pss_one (ps_ret (acall o0 n0 c_play_card (pa_cons (av o0 n0 0 (gm 1 rfl) rfl) (pa_cons (av o0 n0 4 (gm 3 rfl) rfl) (pa_cons (pe_ix ix_list (av o0 n0 2 (gm 4 rfl) rfl) (pe_int) (fun _ _ => rfl)) (pa_nil)))) (gm 6 rfl)))) (pss_nil)) (pss_cons (ps_if (pt_cmpR op_eq (av o0 n0 1 (gm 0 rfl) rfl) (pe_int) (nomark _)) (pss_one (ps_ret (acall o0 n0 c_take_back (pa_cons (av o0 n0 0 (gm 1 rfl) rfl) (pa_cons (pe_ix ix_list (av o0 n0 2 (gm 4 rfl) rfl) (pe_int) (fun _ _ => rfl)) (pa_nil))) (gm 7 rfl)))) (pss_nil)) (pss_cons (ps_if (pt_cmpR op_in_seq (av o0 n0 1 (gm 0 rfl) rfl) (pe_tup (pa_cons (pe_int) (pa_cons (pe_int) (pa_cons (pe_int) (pa_cons (pe_int) (pa_nil)))))) (by with_unfolding_all rfl)) (pss_one (ps_ret (acall o0 n0 c_asked_with (pa_cons (pe_fld (av o0 n0 0 (gm 1 rfl) rfl) rfl) (pa_cons (av o0 n0 4 (gm 3 rfl) rfl) (pa_cons (av o0 n0 1 (gm 0 rfl) rfl) (pa_cons (av o0 n0 2 (gm 4 rfl) rfl) (pa_cons (av o0 n0 3 (gm 2 rfl) rfl) (pa_nil)))))) (gm 8 rfl)))) (pss_nil)) (pss_cons (ps_if (pt_cmpR op_in_seq (av o0 n0 1 (gm 0 rfl) rfl) (pe_tup (pa_cons (pe_int) (pa_cons (pe_int) (pa_cons (pe_int) (pa_cons (pe_int) (pa_cons (pe_int) (pa_nil))))))) (by with_unfolding_all rfl)) (pss_one (ps_ret (acall o0 n0 c_found_out (pa_cons (pe_fld (av o0 n0 0 (gm 1 rfl) rfl) rfl) (pa_cons (av o0 n0 4 (gm 3 rfl) rfl) (pa_cons (av o0 n0 1 (gm 0 rfl) rfl) (pa_nil)))) (gm 9 rfl)))) (pss_nil)) (pss_one (ps_ret (acall o0 n0 c_shown (pa_cons (av o0 n0 0 (gm 1 rfl) rfl) (pa_cons (av o0 n0 4 (gm 3 rfl) rfl) (pa_cons (av o0 n0 1 (gm 0 rfl) rfl) (pa_nil)))) (gm 10 rfl)))))))))))
theorem ev_performed (C : Ctx K mg) : ∀ a : APerf, (StOk a.1 ∧ within a.2.1 a.2.2.1 a.2.2.2) → ∀ W0 x, Rt (t_performed K) (envT ["table", "operation", "numbers", "row", "here"] K W0 x a.1 (domP a)) W0 (rT K W0 x (dIs (perf a.1 a.2.1 a.2.2.1 a.2.2.2).2) (perf a.1 a.2.1 a.2.2.1 a.2.2.2).1) := fun ⟨s, op, ns, row⟩ ⟨so, hwi⟩ W x => by
  dsimp only at so hwi ⊢
  obtain ⟨⟨c1, c2, c3, c4, c5⟩, hw⟩ := hwi
  dsimp only at c1 c2 c3 c4 c5
  have hrow : op = 0 ∨ op = 1 → (∀ z ∈ row, 0 ≤ z) ∧ (Vbndao.toNats row).length ≤ 5000 := fun e => by
    unfold withinM at hw
    rw [if_pos (by rcases e with e | e <;> subst e <;> rfl)] at hw
    obtain ⟨k3, k4⟩ := rowR hw
    refine ⟨fun z hz => (k4 z hz).1, ?_⟩
    unfold Vbndao.toNats
    rw [List.length_map]
    omega
  unfold perf
  refine rt_ifR (et_test (ev_eqI ev_var ev_c)) (fun e => ?_) fun e => ?_
  · have e := of_decide_eq_true e
    rw [if_pos e]
    obtain ⟨r1, r2⟩ := hrow (.inl e)
    exact rt_callT (s, Vbndao.toNats row) r2 rfl (ea_cons (Ev.to ev_var (nats_back r1)) ea_nil)
  rw [if_neg (of_decide_eq_false e)]
  clear e
  refine rt_ifR (et_test (ev_eqI ev_var ev_c)) (fun e => ?_) fun e => ?_
  · have e := of_decide_eq_true e
    rw [if_pos e]
    obtain ⟨r1, r2⟩ := hrow (.inr e)
    exact rt_retT rfl (EvO.ev (evO_call (Vbndao.toNats row) r2 (ea_cons (Ev.to ev_var (nats_back r1)) ea_nil)))
  rw [if_neg (of_decide_eq_false e)]
  clear e
  cases s with
  | none =>
    refine rt_ifR (b := true) ((et_test (ev_isN (x := .non) (ev_fldO (i := 0) (fs := fTab K none) rfl (C.cls fc_Table) (C.noat fn_Table_deal) rfl))).to rfl) (fun _ => ?_) fun h => nomatch h
    exact rt_retT (y := none) rfl (Ev.to (EvO.ev (evO_lst (ea_cons ev_c ea_nil))) rfl)
  | some h =>
    have o : WOk h := so h rfl
    have g := pos_good o
    dsimp only
    refine rt_ifR (b := false) (et_test (ev_isNO (ev_dealT C rfl))) (fun h => nomatch h) fun _ => ?_
    refine rt_seq (nx_set (d := dPos K (posOf h)) (ev_call (h.deal, h.history) o (ea_cons (ev_dealT C rfl) (ea_cons (ev_playT C rfl) ea_nil)))) ?_
    refine rt_ifR (et_test (ev_eqI ev_var ev_c)) (fun e => ?_) fun e => ?_
    · have e := of_decide_eq_true e
      rw [if_pos e]
      have hl := c5 (.inl e)
      have k0 : 0 ≤ ns.getD 0 0 := by
        subst e
        unfold withinM at hw
        rw [if_neg (by decide), if_pos (by decide), List.all_eq_true] at hw
        have := inR (hw (ns.getD 0 0) (by rw [List.getD_eq_getElem?_getD, List.getElem?_eq_getElem (by omega)]; exact List.getElem_mem _))
        omega
      exact rt_callT (h, (ns.getD 0 0).toNat) o rfl (ea_cons ev_var (ea_cons ((ev_ixL (j := 0) ev_var ev_c (ints_at (by omega))).to (toN k0)) ea_nil))
    rw [if_neg (of_decide_eq_false e)]
    clear e
    refine rt_ifR (et_test (ev_eqI ev_var ev_c)) (fun e => ?_) fun e => ?_
    · have e := of_decide_eq_true e
      rw [if_pos e]
      have hl := c5 (.inr e)
      have k0 : 0 ≤ ns.getD 0 0 := by
        subst e
        unfold withinM at hw
        rw [if_neg (by decide), if_neg (by decide), if_pos rfl, List.all_eq_true] at hw
        have := inR (hw (ns.getD 0 0) (by rw [List.getD_eq_getElem?_getD, List.getElem?_eq_getElem (by omega)]; exact List.getElem_mem _))
        omega
      exact rt_callT (h, (ns.getD 0 0).toNat) o rfl (ea_cons ((ev_ixL (j := 0) ev_var ev_c (ints_at (by omega))).to (toN k0)) ea_nil)
    rw [if_neg (of_decide_eq_false e)]
    clear e
    refine rt_ifR (et_test (ev_isC [11, 12, 13, 15] ev_var (ev_tup (ea_cons ev_c (ea_cons ev_c (ea_cons ev_c (ea_cons ev_c ea_nil))))))) (fun e => ?_) fun e => ?_
    · rw [if_pos e]
      exact rt_retT rfl (EvO.ev (evO_call (h.deal, posOf h, op, ns, row) ⟨o.1, g, ⟨⟨c1, c2, c3, c4, c5⟩, hw⟩, e⟩ (ea_cons (ev_dealT C rfl) (ea_cons ev_var (ea_cons ev_var (ea_cons ev_var (ea_cons ev_var ea_nil)))))))
    rw [if_neg (by rw [e]; decide)]
    clear e
    refine rt_ifR (et_test (ev_isC [7, 8, 9, 10, 14] ev_var (ev_tup (ea_cons ev_c (ea_cons ev_c (ea_cons ev_c (ea_cons ev_c (ea_cons ev_c ea_nil)))))))) (fun e => ?_) fun e => ?_
    · rw [if_pos e]
      exact rt_retT rfl (EvO.ev (evO_call (h.deal, posOf h, op) ⟨o.1, g⟩ (ea_cons (ev_dealT C rfl) (ea_cons ev_var (ea_cons ev_var ea_nil)))))
    rw [if_neg (by rw [e]; decide)]
    exact rt_callT (h, op) o rfl (ea_cons ev_var (ea_cons ev_var ea_nil))
theorem ok_performed {P : Program} {w : World} {K : PySem.W.Frag} {mg : Str → Option Value} {base : Heap} (C : Ctx K mg) : Ok P w K mg base 36 "performed" ["table", "operation", "numbers", "row"] (sp_performed K) :=
  ok_gen C 89 rfl rfl sc_performed fg_performed (fun _ _ _ _ _ _ hr o => dv_performed o (fun _ => rfl) ((ok_load_deal C).cal hr (by decide)) ((ok_check_deal C).cal hr (by decide)) ((ok_position_after C).cal hr (by decide)) ((ok_play_card C).cal hr (by decide)) ((ok_take_back C).cal hr (by decide)) ((ok_asked_with C).cal hr (by decide)) ((ok_found_out C).cal hr (by decide)) ((ok_shown C).cal hr (by decide))) (fun _ _ _ _ _ _ us hl => match us, hl with | [_, _, _, _], _ => rfl) (len_T fun _ => rfl) fun _ _ _ _ h => reads_T (ev_performed C) h
def ansOf (s : TSt) (op : Int) (ns row : List Int) : TSt × List Int := if withinM op ns row = true then perf s op ns row else (s, [-1])
def sp_answer_of (K : PySem.W.Frag) : Sp := spT K (fun a : APerf => StOk a.1 ∧ callOk (a.2.1, a.2.2.1, a.2.2.2)) domP (fun a => dIs (ansOf a.1 a.2.1 a.2.2.1 a.2.2.2).2) (fun a => a.1) (fun a => (ansOf a.1 a.2.1 a.2.2.1 a.2.2.2).1)
/-! answer_of -/
def N_answer_of : List Str := ["table", "operation", "numbers", "row"]
theorem sc_answer_of : FnScope ["table", "operation", "numbers", "row"] ["table", "operation", "numbers", "row"] (defScope s_answer_of) := ⟨rfl, rfl, rfl, by decide +kernel, rfl, by decide +kernel, by decide +kernel⟩
theorem nm_answer_of : nmB ["table", "operation", "numbers", "row"] (defScope s_answer_of) [1, 2, 3, 0] [] ["is_within", "OUTSIDE", "performed"] = true := by decide +kernel
def t_answer_of (K : PySem.W.Frag) : TS := tSeq (tIfS (tNot (tB (tCall (sp_is_within K) [] E0 (tCons (tVar 1) (tCons (tVar 2) (tCons (tVar 3) (tNil))))))) (tRet (tLst (tCons (tC (.int (-1))) (tNil)))) (tNext)) (tRet (tCall (sp_performed K) [] E0 (tCons (tVar 0) (tCons (tVar 1) (tCons (tVar 2) (tCons (tVar 3) (tNil)))))))
theorem dv_answer_of {X : Cx} (o0 : On fa X ["table", "operation", "numbers", "row"] (defScope s_answer_of)) (hf : ∀ x, X.fn x = true) (c_is_within : Cal X "is_within" (sp_is_within X.K)) (c_performed : Cal X "performed" (sp_performed X.K)) : PSs X (defBody s_answer_of) (t_answer_of X.K) := by
  have n0 := nm_answer_of
  exact pss_cons (ps_if (pt_not (pt_val (acall o0 n0 c_is_within (pa_cons (av o0 n0 1 (gm 0 rfl) rfl) (pa_cons (av o0 n0 2 (gm 1 rfl) rfl) (pa_cons (av o0 n0 3 (gm 2 rfl) rfl) (pa_nil)))) (gm 0 rfl)))) (pss_one (ps_ret (pe_lst (pa_cons (agi o0 n0 (gm 1 rfl) f_OUTSIDE) (pa_nil))))) (pss_nil)) (pss_one (ps_ret (acall o0 n0 c_performed (pa_cons (av o0 n0 0 (gm 3 rfl) rfl) (pa_cons (av o0 n0 1 (gm 0 rfl) rfl) (pa_cons (av o0 n0 2 (gm 1 rfl) rfl) (pa_cons (av o0 n0 3 (gm 2 rfl) rfl) (pa_nil))))) (gm 2 rfl))))
theorem ev_answer_of (C : Ctx K mg) : ∀ a : APerf, (StOk a.1 ∧ callOk (a.2.1, a.2.2.1, a.2.2.2)) → ∀ W0 x, Rt (t_answer_of K) (envT ["table", "operation", "numbers", "row"] K W0 x a.1 (domP a)) W0 (rT K W0 x (dIs (ansOf a.1 a.2.1 a.2.2.1 a.2.2.2).2) (ansOf a.1 a.2.1 a.2.2.1 a.2.2.2).1) := fun ⟨s, op, ns, row⟩ ⟨so, c⟩ W x => by
  dsimp only at so c ⊢
  unfold ansOf
  refine rt_ifR (et_not (et_B (ev_call (op, ns, row) c (ea_cons ev_var (ea_cons ev_var (ea_cons ev_var ea_nil)))))) (fun e => ?_) fun e => ?_
  · have e : withinM op ns row = false := by simpa using e
    rw [if_neg (by rw [e]; decide)]
    exact rt_retT (y := s) rfl (Ev.to (EvO.ev (evO_lst (ea_cons ev_c ea_nil))) rfl)
  · have e : withinM op ns row = true := by simpa using e
    rw [if_pos e]
    exact rt_callT (s, op, ns, row) ⟨so, c, e⟩ rfl (ea_cons ev_var (ea_cons ev_var (ea_cons ev_var ea_nil)))
theorem ok_answer_of {P : Program} {w : World} {K : PySem.W.Frag} {mg : Str → Option Value} {base : Heap} (C : Ctx K mg) : Ok P w K mg base 37 "answer_of" ["table", "operation", "numbers", "row"] (sp_answer_of K) :=
  ok_gen C 90 rfl rfl sc_answer_of fg_answer_of (fun _ _ _ _ _ _ hr o => dv_answer_of o (fun _ => rfl) ((ok_is_within C).cal hr (by decide)) ((ok_performed C).cal hr (by decide))) (fun _ _ _ _ _ _ us hl => match us, hl with | [_, _, _, _], _ => rfl) (len_T fun _ => rfl) fun _ _ _ _ h => reads_T (ev_answer_of C) h
def manyN (op : Int) : Nat := if [12, 15].contains op = true then 2 else if [3, 4, 11, 13].contains op = true then 1 else 0
def hasRow (op : Int) : Bool := [0, 1, 11, 13].contains op
def sp_many_numbers (K : PySem.W.Frag) : Sp := spOf (fun _ : Int => True) (fun a => [dI a]) (fun a => dN (manyN a))
/-! many_numbers -/
def N_many_numbers : List Str := ["operation"]
theorem sc_many_numbers : FnScope ["operation"] ["operation"] (defScope s_many_numbers) := ⟨rfl, rfl, rfl, by decide +kernel, rfl, by decide +kernel, by decide +kernel⟩
theorem nm_many_numbers : nmB ["operation"] (defScope s_many_numbers) [0] [] ["TWO_NUMBERS", "ONE_NUMBER", "int"] = true := by decide +kernel
def t_many_numbers (K : PySem.W.Frag) : TS := tRet (tIf (tTest (tOp (rIn K false) (tVar 0) (tC (.ref (He.ga K "TWO_NUMBERS"))))) (tC (.int 2)) (tCB (cInt) (tCons (tOp (rIn K false) (tVar 0) (tC (.ref (He.ga K "ONE_NUMBER")))) (tNil))))
theorem dv_many_numbers {X : Cx} (o0 : On fa X ["operation"] (defScope s_many_numbers)) (hf : ∀ x, X.fn x = true) : PSs X (defBody s_many_numbers) (t_many_numbers X.K) := by
  have n0 := nm_many_numbers
  exact pss_one (ps_ret (pe_ifExp (pt_cmpR op_in_seq (av o0 n0 0 (gm 0 rfl) rfl) (agr o0 n0 (gm 0 rfl) f_TWO_NUMBERS) (by with_unfolding_all rfl)) (pe_int) (act o0 n0 call_int1 (by decide +kernel) (pa_cons (pe_cmpR op_in_seq (av o0 n0 0 (gm 0 rfl) rfl) (agr o0 n0 (gm 1 rfl) f_ONE_NUMBER) (by with_unfolding_all rfl)) (pa_nil)) (gm 2 rfl) f_int)))
theorem ev_many_numbers (C : Ctx K mg) : ∀ a : Int, True → ∀ W, Rt (t_many_numbers K) (envOf ["operation"] [dI a]) W (rD (dN (manyN a))) := fun op _ W => by
  unfold manyN
  refine rt_ret (ev_if (et_test (ev_isC [12, 15] ev_var (ev_tupC (ctx_ex C).2.2.2.1))) (fun e => ?_) fun e => ?_)
  · rw [if_pos e]
    exact ev_c
  · rw [if_neg (by rw [e]; decide)]
    refine Ev.to (ev_intB (ev_isC [3, 4, 11, 13] ev_var (ev_tupC (ctx_ex C).2.2.1))) ?_
    by_cases k : [3, 4, 11, 13].contains op = true
    · rw [if_pos k, if_pos k]; rfl
    · rw [if_neg k, if_neg k]; rfl
theorem ok_many_numbers {P : Program} {w : World} {K : PySem.W.Frag} {mg : Str → Option Value} {base : Heap} (C : Ctx K mg) : Ok P w K mg base 1 "many_numbers" ["operation"] (sp_many_numbers K) :=
  ok_gen C 91 rfl rfl sc_many_numbers fg_many_numbers (fun _ _ _ _ _ _ hr o => dv_many_numbers o (fun _ => rfl)) (fun _ _ _ _ _ _ us hl => match us, hl with | [_], _ => rfl) (len_of fun _ => rfl) fun _ _ _ _ h => reads_of (ev_many_numbers C) h
def rowAt (l : List Int) (op : Int) (i : Nat) : List Int := if hasRow op = true then (l.drop (i + 1)).take (l.getD i 0).toNat else []
def sp_row_at (K : PySem.W.Frag) : Sp := spOf (fun a : List Int × Int × Nat => hasRow a.2.1 = true → a.2.2 < a.1.length ∧ 0 ≤ a.1.getD a.2.2 0) (fun a => [dQ K (dZ a.1), dI a.2.1, dN a.2.2]) (fun a => dIs (rowAt a.1 a.2.1 a.2.2))
/-! row_at -/
def N_row_at : List Str := ["calls", "operation", "place"]
theorem sc_row_at : FnScope ["calls", "operation", "place"] ["calls", "operation", "place"] (defScope s_row_at) := ⟨rfl, rfl, rfl, by decide +kernel, rfl, by decide +kernel, by decide +kernel⟩
theorem nm_row_at : nmB ["calls", "operation", "place"] (defScope s_row_at) [1, 0, 2] [] ["WITH_A_LIST"] = true := by decide +kernel
def t_row_at (K : PySem.W.Frag) : TS := tRet (tIf (tTest (tOp (rIn K false) (tVar 1) (tC (.ref (He.ga K "WITH_A_LIST"))))) (tSl (rSlL K) (tVar 0) (tPart (tOp oAdd (tVar 2) (tC (.int 1)))) (tPart (tOp oAdd (tOp oAdd (tVar 2) (tC (.int 1))) (tOp (rIxL K) (tVar 0) (tVar 2))))) (tLst (tNil)))
theorem dv_row_at {X : Cx} (o0 : On fa X ["calls", "operation", "place"] (defScope s_row_at)) (hf : ∀ x, X.fn x = true) : PSs X (defBody s_row_at) (t_row_at X.K) := by
  have n0 := nm_row_at
  exact pss_one (ps_ret (pe_ifExp (pt_cmpR op_in_seq (av o0 n0 1 (gm 0 rfl) rfl) (agr o0 n0 (gm 0 rfl) f_WITH_A_LIST) (by with_unfolding_all rfl)) (pe_slice sl_list (av o0 n0 0 (gm 1 rfl) rfl) (po_some (pe_op op_add (av o0 n0 2 (gm 2 rfl) rfl) (pe_int))) (po_some (pe_op op_add (pe_op op_add (av o0 n0 2 (gm 2 rfl) rfl) (pe_int)) (pe_ix ix_list (av o0 n0 0 (gm 1 rfl) rfl) (av o0 n0 2 (gm 2 rfl) rfl) (fun _ _ => rfl))))) (pe_lst (pa_nil))))
theorem ev_row_at (C : Ctx K mg) : ∀ a : List Int × Int × Nat, (hasRow a.2.1 = true → a.2.2 < a.1.length ∧ 0 ≤ a.1.getD a.2.2 0) → ∀ W, Rt (t_row_at K) (envOf ["calls", "operation", "place"] [dQ K (dZ a.1), dI a.2.1, dN a.2.2]) W (rD (dIs (rowAt a.1 a.2.1 a.2.2))) := fun ⟨l, op, i⟩ h W => by
  dsimp only at h ⊢
  unfold rowAt
  refine rt_ret (ev_if (b := hasRow op) (et_test (ev_isC [0, 1, 11, 13] ev_var (ev_tupC (ctx_ex C).2.2.2.2))) (fun e => ?_) fun e => ?_)
  · obtain ⟨h1, h2⟩ := h e
    rw [if_pos e]
    refine Ev.to (EvO.ev (evO_slQ (lo := some ((i + 1 : Nat) : Int)) (hi := some ((i + 1 + (l.getD i 0).toNat : Nat) : Int)) ev_var (evp_some (ev_addN (k := 1) ev_var ev_c)) (evp_some (ev_addN (m := i + 1) (ev_addN (k := 1) ev_var ev_c) ((ev_ixQ (j := i) ev_var ev_var (ints_at h1)).to (toN h2)))))) ?_
    rw [cut_all dI, Nat.add_sub_cancel_left]
  · rw [if_neg (by rw [e]; decide)]
    exact EvO.ev (evO_lst ea_nil)
theorem ok_row_at {P : Program} {w : World} {K : PySem.W.Frag} {mg : Str → Option Value} {base : Heap} (C : Ctx K mg) : Ok P w K mg base 1 "row_at" ["calls", "operation", "place"] (sp_row_at K) :=
  ok_gen C 92 rfl rfl sc_row_at fg_row_at (fun _ _ _ _ _ _ hr o => dv_row_at o (fun _ => rfl)) (fun _ _ _ _ _ _ us hl => match us, hl with | [_, _, _], _ => rfl) (len_of fun _ => rfl) fun _ _ _ _ h => reads_of (ev_row_at C) h
end
end Fd

namespace Fd
open PySem PySem.Spec PyProof.Rows L2
open Vbndao (Deal Position)
section
variable {P : Program} {w : World} {K : PySem.W.Frag} {mg : Str → Option Value} {base : Heap}
theorem nx_while {c : TT} {tb : TS} {W : Wd} (n : Nat) (E : Nat → En) (ks : List Nat) (hc : ∀ i, i ≤ n → EvT c (E i) W (decide (i < n))) (hs : ∀ i, i < n → ∃ G1, Nx tb (E i) W G1 ∧ wipeE G1 ks = E (i + 1)) : Nx (tWhile c tb) (E 0) W (E n) := fun σ W1 l s D q => by
  refine ⟨fun m σ' H => ∃ i, m = n - i ∧ i ≤ n ∧ ∃ W3 : Wd, W3.H = H ∧ Same W1.F W3.F ∧ Le W W3 ∧ Sat (E i) σ' W3, ⟨n, 0, rfl, Nat.zero_le _, W1, rfl, fun _ _ e => e, l, s⟩, ?_⟩
  rintro m σ' H ⟨i, rfl, hi, W3, rfl, sm, l3, s3⟩
  refine hc i hi σ' W3 l3 s3 _ fun W4 l4 => ?_
  by_cases k : i < n
  · rw [decide_eq_true k]
    show (if true = true then _ else _)
    rw [if_pos rfl]
    obtain ⟨G1, h1, h2⟩ := hs i k
    refine ⟨fun σ2 H2 => ∃ W5 : Wd, W5.H = H2 ∧ Same W1.F W5.F ∧ Le W W5 ∧ Sat (E (i + 1)) σ2 W5, fun σ2 H2 ⟨W5, e5, sm5, l5, s5⟩ => ⟨n - (i + 1), by omega, i + 1, rfl, by omega, W5, e5, sm5, l5, s5⟩, ?_⟩
    refine nx_forget h1 ks σ' W4 (l3.trans l4) (s3.mono l4) { D with nx := _, ct := _, bk := _ } fun σ5 W5 l5 f5 s5 => ⟨W5, rfl, (sm.trans l4.f).trans f5, l5, by rw [← h2]; exact s5⟩
  · rw [decide_eq_false k]
    show (if false = true then _ else _)
    rw [if_neg Bool.false_ne_true]
    have e : i = n := by omega
    subst e
    exact q σ' W4 (l3.trans l4) (sm.trans l4.f) (s3.mono l4)
/-- found.extend(listed(answer_of(table, ..))) -/
theorem nx_ansT {G : En} {W : Wd} {x : Addr} {t : TA} {ds : List Dsc} (a : APerf) (hp : StOk a.1 ∧ callOk (a.2.1, a.2.2.1, a.2.2.2)) (hres : (ansOf a.1 a.2.1 a.2.2.1 a.2.2.2).2.length ≤ 11000000) (hG : G[1]? = some (some (.ow (ownT K W x a.1)))) (hF : G[3]? = some (some (.ow (ownL W ds)))) (hpl : plainE ((G.set 1 none).set 3 none) = true) (h : EvA t G W (domP a)) (hl : ds.length + ((ansOf a.1 a.2.1 a.2.2.1 a.2.2.2).2.length + 1) ≤ sizeLine) :
    Nx (tDrop (tBM K "list" rExtend (tVar 3) (tCons (tCall (sp_listed K) [] E0 (tCons (tCall (sp_answer_of K) [] E0 (tCons (tVar 1) t)) tNil)) tNil))) G W
      ((G.set 1 (some (.ow (ownT K W x (ansOf a.1 a.2.1 a.2.2.1 a.2.2.2).1)))).set 3 (some (.ow (ownL W (ds ++ dZ (((ansOf a.1 a.2.1 a.2.2.1 a.2.2.2).2.length : Int) :: (ansOf a.1 a.2.1 a.2.2.1 a.2.2.2).2)))))) := fun σ W1 l s D q => by
  obtain ⟨v, hv, p, vs, e, n, f, hH, ad⟩ := s.get hF
  subst e
  obtain ⟨v1, hv1, ow⟩ := s.get hG
  have ev : v1 = .ref x := ow.1
  subst ev
  have hxp : p ≠ x := fun k => by
    obtain ⟨_, _, _, dx, us, hx, _⟩ := ow
    rw [k] at hH
    rw [hx] at hH
    cases hH
  refine ⟨_, hv, .inl ⟨rfl, vs, .inl (.inl hH)⟩, ?_⟩
  refine ⟨_, hv1, h σ W1 l s _ fun us W2 l2 au => ?_⟩
  show sp_answer_of K ((V.ref x :: us) ++ []) W2.H _ _
  rw [List.append_nil]
  refine call_T a hp (l.trans l2) ((ownT K W x a.1).mono l2 ow) au fun r U lu sm fr ok o => ?_
  refine ⟨(ansOf a.1 a.2.1 a.2.2.1 a.2.2.2).2, U, rfl, hres, ⟨o, trivial⟩, fun p2 vs2 U2 lu2 n2 f2 hp2 a2 => ?_⟩
  have hp1 := fr p _ hxp (l2.h _ _ hH)
  have hH2 := lu2.h _ _ hp1.1
  have fp : U2.F p = none := lu2.new _ _ hp1.1 (hp1.2 (l2.new _ _ hH f))
  have smx : Same W1.F U2.F := (l2.f.trans sm).trans lu2.f
  have lenx : vs2.length = (ansOf a.1 a.2.1 a.2.2.1 a.2.2.2).2.length + 1 := by rw [a2.len]; simp only [List.length_map, List.length_cons]
  refine ⟨p, p2, vs, vs2, rfl, rfl, hH2, hp2, by rw [ad.len, lenx]; exact hl, ?_⟩
  have l3 : Le W (U2.own p (.lst (vs ++ vs2)) fp noTup_lst) := (lu.trans lu2).chg n fp noTup_lst
  refine q σ (U2.own p (.lst (vs ++ vs2)) fp noTup_lst) l3 smx ?_
  have ok2 := (ownT K W x (ansOf a.1 a.2.1 a.2.2.1 a.2.2.2).1).mono lu2 ok
  have s1 : Sat ((G.set 1 none).set 3 none) σ (U2.own p (.lst (vs ++ vs2)) fp noTup_lst) := Sat.plainUp (U := U2.own p (.lst (vs ++ vs2)) fp noTup_lst) smx hpl ((s.forget 1).forget 3)
  have s2 : Sat (((G.set 1 none).set 3 none).set 1 (some (.ow (ownT K W x (ansOf a.1 a.2.1 a.2.2.1 a.2.2.2).1)))) σ (U2.own p (.lst (vs ++ vs2)) fp noTup_lst) := by
    refine Sat.put hv1 (s1.forget 1) (t := .ow (ownT K W x (ansOf a.1 a.2.1 a.2.2.1 a.2.2.2).1)) ?_
    obtain ⟨g1, g2, g3, dx, us, g4, g5⟩ := ok2
    exact ⟨g1, g2, g3, dx, us, by show upd U2.H p _ x = _; rw [upd_ne (Ne.symm hxp)]; exact g4, g5⟩
  have s3 := Sat.put hv (s2.forget 3) (t := .ow (ownL W (ds ++ dZ (((ansOf a.1 a.2.1 a.2.2.1 a.2.2.2).2.length : Int) :: (ansOf a.1 a.2.1 a.2.2.1 a.2.2.2).2)))) ⟨p, vs ++ vs2, rfl, n, fp, upd_same, (ad.mono smx).app a2⟩
  have eG : (((G.set 1 none).set 3 none).set 1 (some (.ow (ownT K W x (ansOf a.1 a.2.1 a.2.2.1 a.2.2.2).1)))).set 3 (some (.ow (ownL W (ds ++ dZ (((ansOf a.1 a.2.1 a.2.2.1 a.2.2.2).2.length : Int) :: (ansOf a.1 a.2.1 a.2.2.1 a.2.2.2).2))))) = (G.set 1 (some (.ow (ownT K W x (ansOf a.1 a.2.1 a.2.2.1 a.2.2.2).1)))).set 3 (some (.ow (ownL W (ds ++ dZ (((ansOf a.1 a.2.1 a.2.2.1 a.2.2.2).2.length : Int) :: (ansOf a.1 a.2.1 a.2.2.1 a.2.2.2).2))))) := by
    rw [List.set_comm none _ (show (3 : Nat) ≠ 1 by decide), List.set_set, List.set_set]
  rw [eG] at s3
  exact s3
theorem rt_newT {G : En} {W : Wd} {u : TS} {R : V → Wd → Prop} (hpl : plainE G = true) (h : ∀ x, Rt u (((G.set 1 (some (.ow (ownT K W x none)))).set 2 (some (.pl (dN 0)))).set 3 (some (.ow (ownL W [])))) W R) :
    Rt (tSeq (L2.tPar3 1 2 3 (tCons (tMake (He.ga K "Table") (sp_Table K) [] E0 tNil) (tCons (tC (.int 0)) (tCons (tLst tNil) tNil)))) u) G W R := fun σ W1 l s D q => by
  show ∀ x dx, W1.H x = none → W1.H dx = none → dx ≠ x → _
  intro x dx hx hdx hne
  have n1 : (upd W1.H dx (HO.own x)) x = none := by rw [upd_ne (fun e => hne e.symm)]; exact hx
  have l3 := (Le.own (W := W1) (o := .own x) hdx noTup_own)
  have l4 := (Le.own (W := W1.own dx (.own x) (W1.freeF hdx) noTup_own) (p := x) (o := .ins (He.ga K "Table") dx []) n1 noTup_ins)
  refine ⟨(), W, (W1.own dx (.own x) (W1.freeF hdx) noTup_own).own x (.ins (He.ga K "Table") dx []) (W1.freeF hx) noTup_ins, x, dx, [], rfl, rfl, l.trans (l3.trans l4), l.h.free hx, W1.freeF hx, upd_same, trivial, trivial, fun U lu sm ok => ⟨rfl, ?_⟩⟩
  have s2 : Sat G σ U := s.plainUp (show Same W1.F U.F from sm) hpl
  refine ⟨by show 0 ≤ sizeLine; decide, fun p hp => ?_⟩
  have n2 : W.H p = none := lu.h.free hp
  have lo := Le.own (W := U) (o := .lst []) hp noTup_lst
  have ok2 : (ownT K W x none).ok (.ref x) (U.own p (.lst []) (U.freeF hp) noTup_lst) := (ownT K W x none).mono lo ok
  have okL : (ownL W []).ok (.ref p) (U.own p (.lst []) (U.freeF hp) noTup_lst) := ⟨p, [], rfl, n2, U.freeF hp, upd_same, trivial⟩
  exact ⟨_, _, _, rfl, h x _ (U.own p (.lst []) (U.freeF hp) noTup_lst) (lu.trans lo) ((((s2.mono lo).set (t := .ow (ownT K W x none)) ok2 1).set (t := .pl (dN 0)) rfl 2).set (t := .ow (ownL W [])) okL 3) _ q⟩
end
end Fd

namespace Fd
open PySem PySem.Spec PyProof.Rows L2
open Vbndao (Deal Position)
section
/-! ### each call as the specification has it -/
theorem turn_is {x : Deal} {p : Position} (g : Good x p) : turnL p = Vbndao.turnFields x p := by
  unfold turnL Vbndao.turnFields
  rw [(seat_good g).2]
theorem tot_pos {h : WSp} (o : WOk h) : Vbndao.totalPoints h.deal (posOf h) = totalOf h.deal := (run_good (good_start o.1) o.2).2.1.trans (total_start o.1)
theorem guar_tot {h : WSp} (o : WOk h) : guarP h.deal (posOf h) ≤ totalOf h.deal := by
  rw [← tot_pos o]
  exact guarP_le (pos_good o)
theorem both_is {h : WSp} (o : WOk h) : bothM h.deal (guarP h.deal (posOf h)) = 0 :: Vbndao.toInts [Vbndao.guaranteedPoints h.deal (posOf h) 0, Vbndao.guaranteedPoints h.deal (posOf h) 1] := by
  have g := guar_tot o
  unfold bothM Vbndao.guaranteedPoints
  rw [if_pos rfl, if_neg (by decide), tot_pos o, value_guar (pos_good o)]
  show [_, _, _] = [_, _, _]
  congr 3
  exact (Int.ofNat_sub g).symm
theorem vals_is {x : Deal} {p : Position} (g : Good x p) : valsM x p = 0 :: (((Vbndao.moveValues x p).length : Int) :: (Vbndao.moveValues x p).flatMap fun y => Vbndao.toInts [y.1, y.2]) := by
  unfold valsM Vbndao.moveValues
  rw [List.length_map, List.flatMap_map]
  show 0 :: (_ :: _) = _
  congr 2
  have : ∀ l : List Nat, (∀ c ∈ l, c ∈ Vbndao.legalCards x p) → l.flatMap (valRow x p) = l.flatMap fun c => Vbndao.toInts [c, Vbndao.gameValue x (Vbndao.playCard x p c)] := by
    intro l
    induction l with
    | nil => intro _; rfl
    | cons c r ih =>
      intro h
      rw [List.flatMap_cons, List.flatMap_cons, ih fun d hd => h d (List.mem_cons_of_mem _ hd), value_guar (good_legal g (h c List.mem_cons_self))]
      rfl
  exact this _ fun c h => h
theorem best_is {x : Deal} {p : Position} (g : Good x p) : bestL x p = Vbndao.bestLine x p := (best_line _ g (Nat.le_refl _)).symm
theorem plan_is {x : Deal} {p : Position} {s : Nat} {l : List Nat} (g : Good x p) : planM x p s l = 0 :: (((Vbndao.planValue x p s l).1 : Int) :: Vbndao.withLength (Vbndao.planValue x p s l).2) := by
  unfold planM Vbndao.planValue planL
  rw [plan_line (Vbndao.cardsToPlay p) g rfl]
  rfl
theorem claim_is {h : WSp} (o : WOk h) {s : Nat} (n : Int) : claimM h.deal (posOf h) s n = [0, if n ≤ (Vbndao.guaranteedPoints h.deal (posOf h) s : Int) then 1 else 0] := by
  have g := guar_tot o
  unfold claimM Vbndao.guaranteedPoints
  rw [tot_pos o, value_guar (pos_good o)]
  by_cases k : s = 0
  · rw [if_pos k, if_pos k]
  · rw [if_neg k, if_neg k, Int.ofNat_sub g]
theorem ag_is {x : Deal} {p : Position} {s : Nat} {l : List Nat} (g : Good x p) : agM x p s l = 0 :: Vbndao.toInts [(Vbndao.playAgainst x s (Vbndao.cardsToPlay p) l p).scores.1, (Vbndao.playAgainst x s (Vbndao.cardsToPlay p) l p).scores.2] := by
  have := against (side := s) (ks := l) (Vbndao.cardsToPlay p) 0 g (Nat.le_refl _)
  rw [List.drop_zero] at this
  rw [this]
  rfl
theorem lead_is {x : Deal} {p : Position} (g : Good x p) : leadM x p = if p.trick.isEmpty = false then [-5] else 0 :: ((List.range (Vbndao.playerCount x)).map fun i => (Vbndao.gameValue x { p with leader := i } : Int)) := by
  unfold leadM
  by_cases k : p.trick.isEmpty = false
  · rw [if_pos k, if_pos k]
  · rw [if_neg k, if_neg k]
    have ht : p.trick = [] := by simpa using k
    congr 1
    refine List.map_congr_left fun i hi => ?_
    have hi := List.mem_range.mp hi
    have e : ({ p with leader := i } : Position) = ledAt p i := by unfold ledAt; rw [← ht]
    rw [e, value_guar (good_lead g ht hi)]
theorem ex_is {x : Deal} (o : DealOk x) (c d : Nat) : exM x c d = if ((Vbndao.allCards x).contains c && (Vbndao.allCards x).contains d) = false then [-4] else 0 :: Vbndao.toInts [Vbndao.guaranteedPoints (Vbndao.exchangeCards x c d) (Vbndao.initialPosition (Vbndao.exchangeCards x c d)) 0, Vbndao.guaranteedPoints (Vbndao.exchangeCards x c d) (Vbndao.initialPosition (Vbndao.exchangeCards x c d)) 1] := by
  unfold exM
  by_cases k : ((Vbndao.allCards x).contains c && (Vbndao.allCards x).contains d) = false
  · rw [if_pos k, if_pos (by rw [← Bool.not_and, k]; rfl)]
  · rw [if_neg k, if_neg (by rw [← Bool.not_and]; simpa using k)]
    have k2 : ((Vbndao.allCards x).contains c && (Vbndao.allCards x).contains d) = true := by simpa using k
    rw [Bool.and_eq_true] at k2
    obtain ⟨e1, e2, e3, e4⟩ := ex_value o (List.contains_iff_mem.mp k2.1) (List.contains_iff_mem.mp k2.2)
    unfold bothM Vbndao.guaranteedPoints
    rw [if_pos rfl, if_neg (by decide), e4, e1]
    show [_, _, _] = [_, _, _]
    congr 3
    exact (Int.ofNat_sub e3).symm
theorem pos_is {x : Deal} {p : Position} (g : Good x p) : posM p = 0 :: (Vbndao.turnFields x p ++ ((p.leader : Int) :: (Vbndao.withLength p.trick ++ p.hands.flatMap Vbndao.withLength))) := by
  unfold posM
  rw [turn_is g]
  simp only [List.append_assoc, List.cons_append, List.nil_append]
theorem sum_is {h : WSp} (o : WOk h) : sumM h = 0 :: Vbndao.toInts [Vbndao.playerCount h.deal, (Vbndao.allCards h.deal).length, h.history.length, Vbndao.cardsToPlay (posOf h), Vbndao.totalPoints h.deal (posOf h)] := by
  rw [tot_pos o]
  rfl
theorem play_is {h : WSp} (o : WOk h) (c : Nat) : playP h c = if (Vbndao.legalCards h.deal (posOf h)).contains c = false then (some h, [-4]) else (some { h with history := h.history ++ [c] }, 0 :: Vbndao.turnFields h.deal (Vbndao.playCard h.deal (posOf h) c)) := by
  unfold playP
  by_cases k : (Vbndao.legalCards h.deal (posOf h)).contains c = true
  · rw [if_pos k, if_neg (by rw [k]; decide)]
    have e : runTo h.deal (Vbndao.initialPosition h.deal) (h.history ++ [c]) = Vbndao.playCard h.deal (posOf h) c := by
      unfold runTo
      rw [List.foldl_append]
      rfl
    rw [e, turn_is (good_legal (pos_good o) (List.contains_iff_mem.mp k))]
  · rw [if_neg k, if_pos (by simpa using k)]
theorem back_is {h : WSp} (o : WOk h) (k : Nat) : backP h k = if h.history.length < k then (some h, [-4]) else (some { h with history := h.history.take k }, 0 :: Vbndao.turnFields h.deal (runTo h.deal (Vbndao.initialPosition h.deal) (h.history.take k))) := by
  unfold backP
  by_cases q : k > h.history.length
  · rw [if_pos q, if_pos q]
  · rw [if_neg q, if_neg q, turn_is (run_good (good_start o.1) (run_take k o.2)).1]
theorem load_is (s : TSt) (t : List Nat) : loadP s t = match Vbndao.parseDeal t with
    | .error _ => (s, [-3])
    | .ok x => (some ⟨x, []⟩, 0 :: Vbndao.toInts [Vbndao.playerCount x, (Vbndao.allCards x).length, Vbndao.totalPoints x (Vbndao.initialPosition x)]) := by
  rw [parse_deal]
  unfold loadP
  by_cases q : (readD t).1 = (0, 0)
  · rw [toEx_ok q, if_pos q]
    dsimp only
    rw [total_start (read_ok q)]
    rfl
  · rw [toEx_no q, if_neg q]
theorem check_is (t : List Nat) : checkM t = match Vbndao.parseDeal t with
    | .error e => 0 :: Vbndao.toInts [1, e.code, e.offset]
    | .ok _ => 0 :: Vbndao.toInts [0] := by
  rw [parse_deal]
  unfold checkM
  by_cases q : (readD t).1 = (0, 0)
  · rw [toEx_ok q, if_pos q]; rfl
  · rw [toEx_no q, if_neg q]; rfl
end
end Fd

namespace Fd
open PySem PySem.Spec PyProof.Rows L2
open Vbndao (Deal Position)
section
theorem ans_yes {s : TSt} {op : Int} {ns row : List Int} (h : withinM op ns row = true) : ansOf s op ns row = perf s op ns row := if_pos h
theorem ans_no {s : TSt} {op : Int} {ns row : List Int} (h : ¬ withinM op ns row = true) : ansOf s op ns row = (s, [-1]) := if_neg h
theorem st0 (s : TSt) (row : List Int) : ansOf s 0 [] row = Vbndao.step s (.loadDeal row) := by
  have hw : withinM 0 [] row = Vbndao.isByteList row := rfl
  show _ = (if Vbndao.isByteList row = false then Vbndao.fail s 1 else match Vbndao.parseDeal (Vbndao.toNats row) with
    | .error _ => Vbndao.fail s 3
    | .ok x => (some { deal := x, history := [] }, 0 :: Vbndao.toInts [Vbndao.playerCount x, (Vbndao.allCards x).length, Vbndao.totalPoints x (Vbndao.initialPosition x)]))
  by_cases k : Vbndao.isByteList row = true
  · rw [ans_yes (hw.trans k), if_neg (by rw [k]; decide)]
    have : perf s 0 [] row = loadP s (Vbndao.toNats row) := rfl
    rw [this, load_is]
    cases Vbndao.parseDeal (Vbndao.toNats row) <;> rfl
  · rw [ans_no (by rw [hw]; exact k), if_pos (by simpa using k)]
    rfl
theorem st1 (s : TSt) (row : List Int) : ansOf s 1 [] row = Vbndao.step s (.checkDeal row) := by
  have hw : withinM 1 [] row = Vbndao.isByteList row := rfl
  show _ = (if Vbndao.isByteList row = false then Vbndao.fail s 1 else match Vbndao.parseDeal (Vbndao.toNats row) with
    | .error e => Vbndao.succeed s (Vbndao.toInts [1, e.code, e.offset])
    | .ok _ => Vbndao.succeed s [0])
  by_cases k : Vbndao.isByteList row = true
  · rw [ans_yes (hw.trans k), if_neg (by rw [k]; decide)]
    have : perf s 1 [] row = (s, checkM (Vbndao.toNats row)) := rfl
    rw [this, check_is]
    cases Vbndao.parseDeal (Vbndao.toNats row) <;> rfl
  · rw [ans_no (by rw [hw]; exact k), if_pos (by simpa using k)]
    rfl
/-- an operation without arguments, or within its limits, on a table without a deal -/
theorem st_none {op : Int} {ns row : List Int} (h : withinM op ns row = true) (h0 : ¬ op = 0) (h1 : ¬ op = 1) : ansOf none op ns row = (none, [-2]) := by
  rw [ans_yes h]
  unfold perf
  rw [if_neg h0, if_neg h1]
theorem st_some {op : Int} {ns row : List Int} {h : WSp} (hw : withinM op ns row = true) (h0 : ¬ op = 0) (h1 : ¬ op = 1) : ansOf (some h) op ns row = (if op = 3 then playP h (ns.getD 0 0).toNat else if op = 4 then backP h (ns.getD 0 0).toNat else if [11, 12, 13, 15].contains op = true then (some h, askedM h.deal (posOf h) op ns row) else if [7, 8, 9, 10, 14].contains op = true then (some h, foundM h.deal (posOf h) op) else (some h, shownM h op)) := by
  rw [ans_yes hw]
  unfold perf
  rw [if_neg h0, if_neg h1]
theorem st_shown {op : Int} {s : TSt} {f : WSp → Position → TSt × List Int} (so : StOk s) (hw : withinM op [] [] = true) (h0 : ¬ op = 0) (h1 : ¬ op = 1) (h3 : ¬ op = 3) (h4 : ¬ op = 4) (ha : [11, 12, 13, 15].contains op = false) (hf : [7, 8, 9, 10, 14].contains op = false) (k : ∀ h, s = some h → WOk h → f h (posOf h) = (some h, shownM h op)) : ansOf s op [] [] = Vbndao.withWorkspace s f := by
  cases s with
  | none => rw [st_none hw h0 h1]; rfl
  | some h =>
    rw [st_some hw h0 h1, if_neg h3, if_neg h4, if_neg (by rw [ha]; decide), if_neg (by rw [hf]; decide), ← k h rfl (so h rfl)]
    rfl
theorem st_found {op : Int} {s : TSt} {f : WSp → Position → TSt × List Int} (so : StOk s) (hw : withinM op [] [] = true) (h0 : ¬ op = 0) (h1 : ¬ op = 1) (h3 : ¬ op = 3) (h4 : ¬ op = 4) (ha : [11, 12, 13, 15].contains op = false) (hf : [7, 8, 9, 10, 14].contains op = true) (k : ∀ h, s = some h → WOk h → f h (posOf h) = (some h, foundM h.deal (posOf h) op)) : ansOf s op [] [] = Vbndao.withWorkspace s f := by
  cases s with
  | none => rw [st_none hw h0 h1]; rfl
  | some h =>
    rw [st_some hw h0 h1, if_neg h3, if_neg h4, if_neg (by rw [ha]; decide), if_pos hf, ← k h rfl (so h rfl)]
    rfl
theorem st2 {s : TSt} (so : StOk s) : ansOf s 2 [] [] = Vbndao.step s .printDeal := st_shown (op := 2) (f := fun h _ => Vbndao.succeed s (Vbndao.withLength (Vbndao.printDeal h.deal))) so rfl (by decide) (by decide) (by decide) (by decide) rfl rfl fun h hs o => by subst hs; rfl
theorem st5 {s : TSt} (so : StOk s) : ansOf s 5 [] [] = Vbndao.step s .position := st_shown (op := 5) (f := fun h p => Vbndao.succeed s (Vbndao.turnFields h.deal p ++ ((p.leader : Int) :: (Vbndao.withLength p.trick ++ p.hands.flatMap Vbndao.withLength)))) so rfl (by decide) (by decide) (by decide) (by decide) rfl rfl fun h hs o => by subst hs; exact congrArg (Prod.mk _) (pos_is (pos_good o)).symm
theorem st6 {s : TSt} (so : StOk s) : ansOf s 6 [] [] = Vbndao.step s .legalCards := st_shown (op := 6) (f := fun h p => Vbndao.succeed s (Vbndao.withLength (Vbndao.legalCards h.deal p))) so rfl (by decide) (by decide) (by decide) (by decide) rfl rfl fun h hs o => by subst hs; rfl
theorem st16 {s : TSt} (so : StOk s) : ansOf s 16 [] [] = Vbndao.step s .representatives := st_shown (op := 16) (f := fun h p => Vbndao.succeed s (Vbndao.withLength (Vbndao.representatives h.deal p (Vbndao.legalCards h.deal p)))) so rfl (by decide) (by decide) (by decide) (by decide) rfl rfl fun h hs o => by
  subst hs
  show (some h, 0 :: Vbndao.withLength (Vbndao.representatives h.deal (posOf h) (Vbndao.legalCards h.deal (posOf h)))) = (some h, 0 :: Vbndao.withLength (repP h.deal (posOf h)))
  rw [rep_is (pos_good o)]
theorem st17 {s : TSt} (so : StOk s) : ansOf s 17 [] [] = Vbndao.step s .history := st_shown (op := 17) (f := fun h _ => Vbndao.succeed s (Vbndao.withLength h.history)) so rfl (by decide) (by decide) (by decide) (by decide) rfl rfl fun h hs o => by subst hs; rfl
theorem st18 {s : TSt} (so : StOk s) : ansOf s 18 [] [] = Vbndao.step s .summary := st_shown (op := 18) (f := fun h p => Vbndao.succeed s (Vbndao.toInts [Vbndao.playerCount h.deal, (Vbndao.allCards h.deal).length, h.history.length, Vbndao.cardsToPlay p, Vbndao.totalPoints h.deal p])) so rfl (by decide) (by decide) (by decide) (by decide) rfl rfl fun h hs o => by subst hs; exact congrArg (Prod.mk _) (sum_is o).symm
theorem st7 {s : TSt} (so : StOk s) : ansOf s 7 [] [] = Vbndao.step s .guaranteedPoints := st_found (op := 7) (f := fun h p => Vbndao.succeed s (Vbndao.toInts [Vbndao.guaranteedPoints h.deal p 0, Vbndao.guaranteedPoints h.deal p 1])) so rfl (by decide) (by decide) (by decide) (by decide) rfl rfl fun h hs o => by subst hs; exact congrArg (Prod.mk _) (both_is o).symm
theorem st8 {s : TSt} (so : StOk s) : ansOf s 8 [] [] = Vbndao.step s .moveValues := st_found (op := 8) (f := fun h p => Vbndao.succeed s (((Vbndao.moveValues h.deal p).length : Int) :: (Vbndao.moveValues h.deal p).flatMap fun (y : Nat × Nat) => Vbndao.toInts [y.1, y.2])) so rfl (by decide) (by decide) (by decide) (by decide) rfl rfl fun h hs o => by subst hs; exact congrArg (Prod.mk _) (vals_is (pos_good o)).symm
theorem st9 {s : TSt} (so : StOk s) : ansOf s 9 [] [] = Vbndao.step s .bestLine := st_found (op := 9) (f := fun h p => Vbndao.succeed s (Vbndao.withLength (Vbndao.bestLine h.deal p))) so rfl (by decide) (by decide) (by decide) (by decide) rfl rfl fun h hs o => by
  subst hs
  show (some h, 0 :: Vbndao.withLength (Vbndao.bestLine h.deal (posOf h))) = (some h, 0 :: Vbndao.withLength (bestL h.deal (posOf h)))
  rw [best_is (pos_good o)]
theorem st10 {s : TSt} (so : StOk s) : ansOf s 10 [] [] = Vbndao.step s .continuationCount := st_found (op := 10) (f := fun h p => Vbndao.succeed s [(Vbndao.continuationCount h.deal (Vbndao.cardsToPlay p) p : Int)]) so rfl (by decide) (by decide) (by decide) (by decide) rfl rfl fun h hs o => by subst hs; rfl
theorem st14 {s : TSt} (so : StOk s) : ansOf s 14 [] [] = Vbndao.step s .leaderValues := st_found (op := 14) (f := fun h p => if p.trick.isEmpty = false then Vbndao.fail s 5 else Vbndao.succeed s ((List.range (Vbndao.playerCount h.deal)).map fun i => (Vbndao.gameValue h.deal { p with leader := i } : Int))) so rfl (by decide) (by decide) (by decide) (by decide) rfl rfl fun h hs o => by
  subst hs
  have e : foundM h.deal (posOf h) 14 = leadM h.deal (posOf h) := rfl
  rw [e, lead_is (pos_good o)]
  by_cases k : (posOf h).trick.isEmpty = false
  · rw [if_pos k, if_pos k]; rfl
  · rw [if_neg k, if_neg k]; rfl
theorem st3 {s : TSt} (so : StOk s) (c : Int) : ansOf s 3 [c] [] = Vbndao.step s (.playCard c) := by
  have hw : withinM 3 [c] [] = (Vbndao.isCardArgument c && true) := rfl
  rw [Bool.and_true] at hw
  show _ = (if Vbndao.isCardArgument c = false then Vbndao.fail s 1 else Vbndao.withWorkspace s fun h p => if (Vbndao.legalCards h.deal p).contains c.toNat = false then Vbndao.fail s 4 else (some { h with history := h.history ++ [c.toNat] }, 0 :: Vbndao.turnFields h.deal (Vbndao.playCard h.deal p c.toNat)))
  by_cases k : Vbndao.isCardArgument c = true
  · rw [if_neg (by rw [k]; decide)]
    cases s with
    | none => rw [st_none (hw.trans k) (by decide) (by decide)]; rfl
    | some h =>
      rw [st_some (hw.trans k) (by decide) (by decide), if_pos rfl, show ([c].getD 0 0) = c from rfl, play_is (so h rfl)]
      rfl
  · rw [ans_no (by rw [hw]; exact k), if_pos (by simpa using k)]; rfl
theorem st4 {s : TSt} (so : StOk s) (k : Int) : ansOf s 4 [k] [] = Vbndao.step s (.takeBack k) := by
  have hw : withinM 4 [k] [] = (Vbndao.inRange k 0 12 && true) := rfl
  rw [Bool.and_true] at hw
  show _ = (if Vbndao.inRange k 0 12 = false then Vbndao.fail s 1 else Vbndao.withWorkspace s fun h _ => if (h.history.length : Int) < k then Vbndao.fail s 4 else (some { h with history := h.history.take k.toNat }, 0 :: Vbndao.turnFields h.deal (Vbndao.positionOf { h with history := h.history.take k.toNat })))
  by_cases q : Vbndao.inRange k 0 12 = true
  · rw [if_neg (by rw [q]; decide)]
    have hk := inR q
    cases s with
    | none => rw [st_none (hw.trans q) (by decide) (by decide)]; rfl
    | some h =>
      rw [st_some (hw.trans q) (by decide) (by decide), if_neg (by decide), if_pos rfl, show ([k].getD 0 0) = k from rfl, back_is (so h rfl)]
      show _ = (if (h.history.length : Int) < k then Vbndao.fail (some h) 4 else _)
      by_cases z : h.history.length < k.toNat
      · rw [if_pos z, if_pos (by omega)]; rfl
      · rw [if_neg z, if_neg (by omega)]; rfl
  · rw [ans_no (by rw [hw]; exact q), if_pos (by simpa using q)]; rfl
theorem st_asked {op : Int} {ns row : List Int} {s : TSt} {f : WSp → Position → TSt × List Int} (so : StOk s) (hw : withinM op ns row = true) (h0 : ¬ op = 0) (h1 : ¬ op = 1) (h3 : ¬ op = 3) (h4 : ¬ op = 4) (ha : [11, 12, 13, 15].contains op = true) (k : ∀ h, s = some h → WOk h → f h (posOf h) = (some h, askedM h.deal (posOf h) op ns row)) : ansOf s op ns row = Vbndao.withWorkspace s f := by
  cases s with
  | none => rw [st_none hw h0 h1]; rfl
  | some h =>
    rw [st_some hw h0 h1, if_neg h3, if_neg h4, if_pos ha, ← k h rfl (so h rfl)]
    rfl
theorem st11 {s : TSt} (so : StOk s) (e : Int) (l : List Int) : ansOf s 11 [e] l = Vbndao.step s (.evaluatePlan e l) := by
  have hw : withinM 11 [e] l = (Vbndao.isSideArgument e && (decide (l.length ≤ 20) && l.all Vbndao.isCardArgument)) := rfl
  show _ = (if (Vbndao.isSideArgument e && (decide (l.length ≤ 20) && l.all Vbndao.isCardArgument)) = false then Vbndao.fail s 1 else Vbndao.withWorkspace s fun h p => Vbndao.succeed s (((Vbndao.planValue h.deal p e.toNat (Vbndao.toNats l)).1 : Int) :: Vbndao.withLength (Vbndao.planValue h.deal p e.toNat (Vbndao.toNats l)).2))
  by_cases k : (Vbndao.isSideArgument e && (decide (l.length ≤ 20) && l.all Vbndao.isCardArgument)) = true
  · rw [if_neg (by rw [k]; decide)]
    cases s with
    | none => rw [st_none (hw.trans k) (by decide) (by decide)]; rfl
    | some w =>
      refine st_asked (op := 11) (f := fun h p => Vbndao.succeed (some w) (((Vbndao.planValue h.deal p e.toNat (Vbndao.toNats l)).1 : Int) :: Vbndao.withLength (Vbndao.planValue h.deal p e.toNat (Vbndao.toNats l)).2)) so (hw.trans k) (by decide) (by decide) (by decide) (by decide) rfl fun h hs o => ?_
      cases hs
      have : askedM w.deal (posOf w) 11 [e] l = planM w.deal (posOf w) e.toNat (Vbndao.toNats l) := rfl
      rw [this, plan_is (pos_good o)]
      rfl
  · rw [ans_no (by rw [hw]; exact k), if_pos (by simpa using k)]; rfl
theorem st12 {s : TSt} (so : StOk s) (e n : Int) : ansOf s 12 [e, n] [] = Vbndao.step s (.checkClaim e n) := by
  have hw : withinM 12 [e, n] [] = (Vbndao.isSideArgument e && Vbndao.inRange n 0 10000) := rfl
  show _ = (if (Vbndao.isSideArgument e && Vbndao.inRange n 0 10000) = false then Vbndao.fail s 1 else Vbndao.withWorkspace s fun h p => Vbndao.succeed s [if n ≤ (Vbndao.guaranteedPoints h.deal p e.toNat : Int) then 1 else 0])
  by_cases k : (Vbndao.isSideArgument e && Vbndao.inRange n 0 10000) = true
  · rw [if_neg (by rw [k]; decide)]
    cases s with
    | none => rw [st_none (hw.trans k) (by decide) (by decide)]; rfl
    | some w =>
      refine st_asked (op := 12) (f := fun h p => Vbndao.succeed (some w) [if n ≤ (Vbndao.guaranteedPoints h.deal p e.toNat : Int) then 1 else 0]) so (hw.trans k) (by decide) (by decide) (by decide) (by decide) rfl fun h hs o => ?_
      cases hs
      have : askedM w.deal (posOf w) 12 [e, n] [] = claimM w.deal (posOf w) e.toNat n := rfl
      rw [this, claim_is o]
      rfl
  · rw [ans_no (by rw [hw]; exact k), if_pos (by simpa using k)]; rfl
theorem st13 {s : TSt} (so : StOk s) (e : Int) (l : List Int) : ansOf s 13 [e] l = Vbndao.step s (.playAgainst e l) := by
  have hw : withinM 13 [e] l = (Vbndao.isSideArgument e && (decide (l.length ≤ 20) && l.all fun k => Vbndao.inRange k 0 20)) := rfl
  show _ = (if (Vbndao.isSideArgument e && (decide (l.length ≤ 20) && l.all fun k => Vbndao.inRange k 0 20)) = false then Vbndao.fail s 1 else Vbndao.withWorkspace s fun h p => Vbndao.succeed s (Vbndao.toInts [(Vbndao.playAgainst h.deal e.toNat (Vbndao.cardsToPlay p) (Vbndao.toNats l) p).scores.1, (Vbndao.playAgainst h.deal e.toNat (Vbndao.cardsToPlay p) (Vbndao.toNats l) p).scores.2]))
  by_cases k : (Vbndao.isSideArgument e && (decide (l.length ≤ 20) && l.all fun k => Vbndao.inRange k 0 20)) = true
  · rw [if_neg (by rw [k]; decide)]
    cases s with
    | none => rw [st_none (hw.trans k) (by decide) (by decide)]; rfl
    | some w =>
      refine st_asked (op := 13) (f := fun h p => Vbndao.succeed (some w) (Vbndao.toInts [(Vbndao.playAgainst h.deal e.toNat (Vbndao.cardsToPlay p) (Vbndao.toNats l) p).scores.1, (Vbndao.playAgainst h.deal e.toNat (Vbndao.cardsToPlay p) (Vbndao.toNats l) p).scores.2])) so (hw.trans k) (by decide) (by decide) (by decide) (by decide) rfl fun h hs o => ?_
      cases hs
      have : askedM w.deal (posOf w) 13 [e] l = agM w.deal (posOf w) e.toNat (Vbndao.toNats l) := rfl
      rw [this, ag_is (pos_good o)]
      rfl
  · rw [ans_no (by rw [hw]; exact k), if_pos (by simpa using k)]; rfl
theorem st15 {s : TSt} (so : StOk s) (c d : Int) : ansOf s 15 [c, d] [] = Vbndao.step s (.exchangeCards c d) := by
  have hw : withinM 15 [c, d] [] = (Vbndao.isCardArgument c && (Vbndao.isCardArgument d && true)) := rfl
  rw [Bool.and_true] at hw
  show _ = (if (Vbndao.isCardArgument c && Vbndao.isCardArgument d) = false then Vbndao.fail s 1 else Vbndao.withWorkspace s fun h _ => if ((Vbndao.allCards h.deal).contains c.toNat && (Vbndao.allCards h.deal).contains d.toNat) = false then Vbndao.fail s 4 else
    Vbndao.succeed s (Vbndao.toInts [Vbndao.guaranteedPoints (Vbndao.exchangeCards h.deal c.toNat d.toNat) (Vbndao.initialPosition (Vbndao.exchangeCards h.deal c.toNat d.toNat)) 0, Vbndao.guaranteedPoints (Vbndao.exchangeCards h.deal c.toNat d.toNat) (Vbndao.initialPosition (Vbndao.exchangeCards h.deal c.toNat d.toNat)) 1]))
  by_cases k : (Vbndao.isCardArgument c && Vbndao.isCardArgument d) = true
  · rw [if_neg (by rw [k]; decide)]
    cases s with
    | none => rw [st_none (hw.trans k) (by decide) (by decide)]; rfl
    | some w =>
      refine st_asked (op := 15) (f := fun h _ => if ((Vbndao.allCards h.deal).contains c.toNat && (Vbndao.allCards h.deal).contains d.toNat) = false then Vbndao.fail (some w) 4 else
        Vbndao.succeed (some w) (Vbndao.toInts [Vbndao.guaranteedPoints (Vbndao.exchangeCards h.deal c.toNat d.toNat) (Vbndao.initialPosition (Vbndao.exchangeCards h.deal c.toNat d.toNat)) 0, Vbndao.guaranteedPoints (Vbndao.exchangeCards h.deal c.toNat d.toNat) (Vbndao.initialPosition (Vbndao.exchangeCards h.deal c.toNat d.toNat)) 1])) so (hw.trans k) (by decide) (by decide) (by decide) (by decide) rfl fun h hs o => ?_
      cases hs
      have : askedM w.deal (posOf w) 15 [c, d] [] = exM w.deal c.toNat d.toNat := rfl
      rw [this, ex_is o.1]
      by_cases q : ((Vbndao.allCards w.deal).contains c.toNat && (Vbndao.allCards w.deal).contains d.toNat) = false
      · rw [if_pos q, if_pos q]; rfl
      · rw [if_neg q, if_neg q]; rfl
  · rw [ans_no (by rw [hw]; exact k), if_pos (by simpa using k)]; rfl
theorem ans_ok {s : TSt} {op : Int} {ns row : List Int} (so : StOk s) : StOk (ansOf s op ns row).1 := by
  unfold ansOf
  split
  · unfold perf
    split
    · unfold loadP
      split
      · rename_i h
        intro w hw
        cases hw
        exact ⟨read_ok h, trivial⟩
      · exact so
    · split
      · exact so
      · cases s with
        | none => exact so
        | some h =>
          dsimp only
          have o := so h rfl
          split
          · unfold playP
            split
            · rename_i k
              intro w hw
              cases hw
              exact ⟨o.1, run_app o.2 (List.contains_iff_mem.mp k)⟩
            · exact so
          · split
            · unfold backP
              split
              · exact so
              · intro w hw
                cases hw
                exact ⟨o.1, run_take _ o.2⟩
            · split
              · exact so
              · split
                · exact so
                · exact so
  · exact so
/-- a call's parts -/
abbrev opC (c : List (List Int)) : Int := (c.headD []).headD 0
abbrev nsC (c : List (List Int)) : List Int := (c.headD []).drop 1
abbrev rowC (c : List (List Int)) : List Int := (c.drop 1).headD []
theorem len0 {l : List Int} (h : l.length = 0) : l = [] := List.eq_nil_of_length_eq_zero h
theorem len1 {l : List Int} (h : l.length = 1) : ∃ a, l = [a] := by
  match l, h with
  | [a], _ => exact ⟨a, rfl⟩
theorem len2 {l : List Int} (h : l.length = 2) : ∃ a b, l = [a, b] := by
  match l, h with
  | [a, b], _ => exact ⟨a, b, rfl⟩
theorem len0' {l : List (List Int)} (h : l.length = 0) : l = [] := List.eq_nil_of_length_eq_zero h
theorem len1' {l : List (List Int)} (h : l.length = 1) : ∃ a, l = [a] := by
  match l, h with
  | [a], _ => exact ⟨a, rfl⟩
theorem sh {a b c d : Nat} (h : some (a, b) = some (c, d)) : c = a ∧ d = b := by cases h; exact ⟨rfl, rfl⟩
theorem ans_step {s : TSt} (so : StOk s) {c : List (List Int)} {p : Int} {a : List Int} {xs : List (List Int)} (ec : c = (p :: a) :: xs) (hs : PyVbndao.shape p = some (a.length, xs.length)) :
    ansOf s (opC c) (nsC c) (rowC c) = VbndaoNeutral.step s c ∧ PyVbndao.whole c = c ∧ a.length = manyN p ∧ xs.length = (if hasRow p = true then 1 else 0) ∧ a.length ≤ 2 ∧ (p = 11 ∨ p = 13 → 1 ≤ a.length) ∧ (p = 12 ∨ p = 15 → 2 ≤ a.length) ∧ (p = 3 ∨ p = 4 → 1 ≤ a.length) := by
  subst ec
  unfold PyVbndao.shape at hs
  by_cases h0 : p = 0
  · rw [if_pos h0] at hs; obtain ⟨e1, e2⟩ := sh hs
    obtain ⟨r, rfl⟩ := len1' e2
    have e := len0 e1
    subst e h0
    exact ⟨st0 s r, rfl, rfl, rfl, by decide, by decide, by decide, by decide⟩
  rw [if_neg h0] at hs
  by_cases h1 : p = 1
  · rw [if_pos h1] at hs; obtain ⟨e1, e2⟩ := sh hs
    obtain ⟨r, rfl⟩ := len1' e2
    have e := len0 e1
    subst e h1
    exact ⟨st1 s r, rfl, rfl, rfl, by decide, by decide, by decide, by decide⟩
  rw [if_neg h1] at hs
  by_cases h2 : p = 2
  · rw [if_pos h2] at hs; obtain ⟨e1, e2⟩ := sh hs
    have e' := len0' e2
    have e := len0 e1
    subst e' e h2
    exact ⟨st2 so, rfl, rfl, rfl, by decide, by decide, by decide, by decide⟩
  rw [if_neg h2] at hs
  by_cases h3 : p = 3
  · rw [if_pos h3] at hs; obtain ⟨e1, e2⟩ := sh hs
    have e' := len0' e2
    obtain ⟨u, rfl⟩ := len1 e1
    subst e' h3
    exact ⟨st3 so u, rfl, rfl, rfl, (by show 1 ≤ 2; decide), fun _ => (by show 1 ≤ 1; decide), fun h => absurd h (by decide), fun _ => (by show 1 ≤ 1; decide)⟩
  rw [if_neg h3] at hs
  by_cases h4 : p = 4
  · rw [if_pos h4] at hs; obtain ⟨e1, e2⟩ := sh hs
    have e' := len0' e2
    obtain ⟨u, rfl⟩ := len1 e1
    subst e' h4
    exact ⟨st4 so u, rfl, rfl, rfl, (by show 1 ≤ 2; decide), fun _ => (by show 1 ≤ 1; decide), fun h => absurd h (by decide), fun _ => (by show 1 ≤ 1; decide)⟩
  rw [if_neg h4] at hs
  by_cases h5 : p = 5
  · rw [if_pos h5] at hs; obtain ⟨e1, e2⟩ := sh hs
    have e' := len0' e2
    have e := len0 e1
    subst e' e h5
    exact ⟨st5 so, rfl, rfl, rfl, by decide, by decide, by decide, by decide⟩
  rw [if_neg h5] at hs
  by_cases h6 : p = 6
  · rw [if_pos h6] at hs; obtain ⟨e1, e2⟩ := sh hs
    have e' := len0' e2
    have e := len0 e1
    subst e' e h6
    exact ⟨st6 so, rfl, rfl, rfl, by decide, by decide, by decide, by decide⟩
  rw [if_neg h6] at hs
  by_cases h7 : p = 7
  · rw [if_pos h7] at hs; obtain ⟨e1, e2⟩ := sh hs
    have e' := len0' e2
    have e := len0 e1
    subst e' e h7
    exact ⟨st7 so, rfl, rfl, rfl, by decide, by decide, by decide, by decide⟩
  rw [if_neg h7] at hs
  by_cases h8 : p = 8
  · rw [if_pos h8] at hs; obtain ⟨e1, e2⟩ := sh hs
    have e' := len0' e2
    have e := len0 e1
    subst e' e h8
    exact ⟨st8 so, rfl, rfl, rfl, by decide, by decide, by decide, by decide⟩
  rw [if_neg h8] at hs
  by_cases h9 : p = 9
  · rw [if_pos h9] at hs; obtain ⟨e1, e2⟩ := sh hs
    have e' := len0' e2
    have e := len0 e1
    subst e' e h9
    exact ⟨st9 so, rfl, rfl, rfl, by decide, by decide, by decide, by decide⟩
  rw [if_neg h9] at hs
  by_cases h10 : p = 10
  · rw [if_pos h10] at hs; obtain ⟨e1, e2⟩ := sh hs
    have e' := len0' e2
    have e := len0 e1
    subst e' e h10
    exact ⟨st10 so, rfl, rfl, rfl, by decide, by decide, by decide, by decide⟩
  rw [if_neg h10] at hs
  by_cases h11 : p = 11
  · rw [if_pos h11] at hs; obtain ⟨e1, e2⟩ := sh hs
    obtain ⟨r, rfl⟩ := len1' e2
    obtain ⟨u, rfl⟩ := len1 e1
    subst h11
    exact ⟨st11 so u r, rfl, rfl, rfl, (by show 1 ≤ 2; decide), fun _ => (by show 1 ≤ 1; decide), fun h => absurd h (by decide), fun _ => (by show 1 ≤ 1; decide)⟩
  rw [if_neg h11] at hs
  by_cases h12 : p = 12
  · rw [if_pos h12] at hs; obtain ⟨e1, e2⟩ := sh hs
    have e' := len0' e2
    obtain ⟨u, v, rfl⟩ := len2 e1
    subst e' h12
    exact ⟨st12 so u v, rfl, rfl, rfl, (by show 2 ≤ 2; decide), fun _ => (by show 1 ≤ 2; decide), fun _ => (by show 2 ≤ 2; decide), fun _ => (by show 1 ≤ 2; decide)⟩
  rw [if_neg h12] at hs
  by_cases h13 : p = 13
  · rw [if_pos h13] at hs; obtain ⟨e1, e2⟩ := sh hs
    obtain ⟨r, rfl⟩ := len1' e2
    obtain ⟨u, rfl⟩ := len1 e1
    subst h13
    exact ⟨st13 so u r, rfl, rfl, rfl, (by show 1 ≤ 2; decide), fun _ => (by show 1 ≤ 1; decide), fun h => absurd h (by decide), fun _ => (by show 1 ≤ 1; decide)⟩
  rw [if_neg h13] at hs
  by_cases h14 : p = 14
  · rw [if_pos h14] at hs; obtain ⟨e1, e2⟩ := sh hs
    have e' := len0' e2
    have e := len0 e1
    subst e' e h14
    exact ⟨st14 so, rfl, rfl, rfl, by decide, by decide, by decide, by decide⟩
  rw [if_neg h14] at hs
  by_cases h15 : p = 15
  · rw [if_pos h15] at hs; obtain ⟨e1, e2⟩ := sh hs
    have e' := len0' e2
    obtain ⟨u, v, rfl⟩ := len2 e1
    subst e' h15
    exact ⟨st15 so u v, rfl, rfl, rfl, (by show 2 ≤ 2; decide), fun _ => (by show 1 ≤ 2; decide), fun _ => (by show 2 ≤ 2; decide), fun _ => (by show 1 ≤ 2; decide)⟩
  rw [if_neg h15] at hs
  by_cases h16 : p = 16
  · rw [if_pos h16] at hs; obtain ⟨e1, e2⟩ := sh hs
    have e' := len0' e2
    have e := len0 e1
    subst e' e h16
    exact ⟨st16 so, rfl, rfl, rfl, by decide, by decide, by decide, by decide⟩
  rw [if_neg h16] at hs
  by_cases h17 : p = 17
  · rw [if_pos h17] at hs; obtain ⟨e1, e2⟩ := sh hs
    have e' := len0' e2
    have e := len0 e1
    subst e' e h17
    exact ⟨st17 so, rfl, rfl, rfl, by decide, by decide, by decide, by decide⟩
  rw [if_neg h17] at hs
  by_cases h18 : p = 18
  · rw [if_pos h18] at hs; obtain ⟨e1, e2⟩ := sh hs
    have e' := len0' e2
    have e := len0 e1
    subst e' e h18
    exact ⟨st18 so, rfl, rfl, rfl, by decide, by decide, by decide, by decide⟩
  rw [if_neg h18] at hs
  cases hs
end
end Fd

namespace Fd
open PySem PySem.Spec PyProof.Rows L2
open Vbndao (Deal Position)
section
variable {P : Program} {w : World} {K : PySem.W.Frag} {mg : Str → Option Value} {base : Heap}
def sAt (cs : List (List (List Int))) (i : Nat) : TSt := (cs.take i).foldl (fun s c => (VbndaoNeutral.step s c).1) VbndaoNeutral.start
def aAt (cs : List (List (List Int))) (i : Nat) : List Int := PyFlat.told (PyFlat.played VbndaoNeutral.step VbndaoNeutral.start (cs.take i))
theorem played_app {c : List (List Int)} : ∀ {cs : List (List (List Int))} {s : TSt}, PyFlat.played VbndaoNeutral.step s (cs ++ [c]) = PyFlat.played VbndaoNeutral.step s cs ++ [(VbndaoNeutral.step (cs.foldl (fun s c => (VbndaoNeutral.step s c).1) s) c).2]
  | [], s => rfl
  | d :: cs, s => by
    show _ :: PyFlat.played VbndaoNeutral.step (VbndaoNeutral.step s d).1 (cs ++ [c]) = _
    rw [played_app]
    rfl
theorem told_app (l k : List (List Int)) : PyFlat.told (l ++ k) = PyFlat.told l ++ PyFlat.told k := List.flatMap_append
theorem a_succ {cs : List (List (List Int))} {i : Nat} {c : List (List Int)} (h : cs[i]? = some c) : aAt cs (i + 1) = aAt cs i ++ (((VbndaoNeutral.step (sAt cs i) c).2.length : Int) :: (VbndaoNeutral.step (sAt cs i) c).2) := by
  unfold aAt sAt
  rw [take_get h, played_app (s := VbndaoNeutral.start) (c := c), told_app]
  congr 1
  simp [PyFlat.told]
theorem s_succ {cs : List (List (List Int))} {i : Nat} {c : List (List Int)} (h : cs[i]? = some c) : sAt cs (i + 1) = (VbndaoNeutral.step (sAt cs i) c).1 := by
  unfold sAt
  rw [take_get h, List.foldl_append]
  rfl
theorem st_start : StOk VbndaoNeutral.start := fun h e => by cases e
theorem s_ok {cs : List (List (List Int))} (hc : ∀ c ∈ cs, PyFlat.okCall PyVbndao.shape c) : ∀ i, StOk (sAt cs i) := by
  intro i
  induction i with
  | zero => exact st_start
  | succ i ih =>
    cases e : cs[i]? with
    | none =>
      unfold sAt at ih ⊢
      rw [List.take_add_one, e]
      simpa using ih
    | some c =>
      rw [s_succ e]
      obtain ⟨p, a, xs, ec, hs⟩ := hc c (List.mem_of_getElem? e)
      rw [← (ans_step ih ec hs).1]
      exact ans_ok ih
theorem a_mono {cs : List (List (List Int))} (i : Nat) : (aAt cs i).length ≤ (aAt cs cs.length).length := by
  have : ∀ d, (aAt cs i).length ≤ (aAt cs (i + d)).length := by
    intro d
    induction d with
    | zero => exact Nat.le_refl _
    | succ d ih =>
      cases e : cs[i + d]? with
      | none =>
        have : aAt cs (i + (d + 1)) = aAt cs (i + d) := by
          unfold aAt
          rw [show i + (d + 1) = (i + d) + 1 by omega, List.take_add_one, e]
          simp
        rw [this]; exact ih
      | some c =>
        rw [show i + (d + 1) = (i + d) + 1 by omega, a_succ e, List.length_append]
        omega
  rcases Nat.lt_or_ge i cs.length with k | k
  · have := this (cs.length - i)
    rwa [show i + (cs.length - i) = cs.length by omega] at this
  · have e : aAt cs i = aAt cs cs.length := by
      unfold aAt
      rw [List.take_of_length_le k, List.take_length]
    rw [e]
    exact Nat.le_refl _
def pAt (cs : List (List (List Int))) (i : Nat) : Nat := (PyFlat.put (cs.take i)).length
theorem put_app : ∀ (cs ds : List (List (List Int))), PyFlat.put (cs ++ ds) = PyFlat.put cs ++ PyFlat.put ds
  | [], _ => rfl
  | c :: cs, ds => by
    show PyFlat.put1 c ++ PyFlat.put (cs ++ ds) = (PyFlat.put1 c ++ PyFlat.put cs) ++ PyFlat.put ds
    rw [put_app cs ds, List.append_assoc]
theorem put_at {cs : List (List (List Int))} {i : Nat} {c : List (List Int)} (h : cs[i]? = some c) : PyFlat.put cs = PyFlat.put (cs.take i) ++ (PyFlat.put1 c ++ PyFlat.put (cs.drop (i + 1))) := by
  have hl := (List.getElem?_eq_some_iff.mp h).1
  have e : cs = cs.take i ++ (c :: cs.drop (i + 1)) := by
    conv => lhs; rw [← List.take_append_drop i cs, List.drop_eq_getElem_cons hl]
    rw [(List.getElem?_eq_some_iff.mp h).2]
  conv => lhs; rw [e, put_app]
  rfl
theorem p_succ {cs : List (List (List Int))} {i : Nat} {c : List (List Int)} (h : cs[i]? = some c) : pAt cs (i + 1) = pAt cs i + (PyFlat.put1 c).length := by
  unfold pAt
  rw [take_get h, put_app, List.length_append]
  show _ + (PyFlat.put1 c ++ []).length = _
  rw [List.append_nil]
/-- what stands at a call's place -/
theorem at_call {cs : List (List (List Int))} {i : Nat} {p : Int} {a : List Int} {xs : List (List Int)} (h : cs[i]? = some ((p :: a) :: xs)) (hx : xs.length = (if hasRow p = true then 1 else 0)) :
    (PyFlat.put cs).getD (pAt cs i) 0 = p ∧ pAt cs i < (PyFlat.put cs).length ∧ ((PyFlat.put cs).drop (pAt cs i + 1)).take a.length = a ∧ rowAt (PyFlat.put cs) p (pAt cs i + 1 + a.length) = xs.headD [] ∧
    (hasRow p = true → pAt cs i + 1 + a.length < (PyFlat.put cs).length ∧ 0 ≤ (PyFlat.put cs).getD (pAt cs i + 1 + a.length) 0) ∧ pAt cs (i + 1) = pAt cs i + 1 + a.length + (xs.headD []).length + (if hasRow p = true then 1 else 0) := by
  have hp := put_at h
  have e1 : PyFlat.put1 ((p :: a) :: xs) = p :: (a ++ PyFlat.putRows xs) := rfl
  have hd : ∀ k, (PyFlat.put cs).drop (pAt cs i + k) = (p :: (a ++ (PyFlat.putRows xs ++ PyFlat.put (cs.drop (i + 1))))).drop k := fun k => by
    rw [hp, e1]
    unfold pAt
    rw [List.drop_append, List.drop_eq_nil_of_le (by omega), List.nil_append, Nat.add_sub_cancel_left]
    simp only [List.cons_append, List.append_assoc]
  have hlen : (PyFlat.put cs).length = pAt cs i + (1 + (a.length + ((PyFlat.putRows xs).length + (PyFlat.put (cs.drop (i + 1))).length))) := by
    rw [hp, e1, List.length_append, List.length_append, List.length_cons, List.length_append]
    unfold pAt
    omega
  have hget : ∀ k, (PyFlat.put cs)[pAt cs i + k]? = (p :: (a ++ (PyFlat.putRows xs ++ PyFlat.put (cs.drop (i + 1)))))[k]? := fun k => by
    have := congrArg (fun l => l[0]?) (hd k)
    simpa [List.getElem?_drop] using this
  refine ⟨?_, by omega, ?_, ?_, ?_, ?_⟩
  · have := hget 0
    rw [Nat.add_zero] at this
    rw [List.getD_eq_getElem?_getD, this]
    rfl
  · rw [hd 1]
    show (a ++ _).take a.length = a
    exact List.take_left' rfl
  · unfold rowAt
    by_cases k : hasRow p = true
    · rw [if_pos k] at hx ⊢
      obtain ⟨r, rfl⟩ := len1' hx
      have e2 : (PyFlat.put cs).getD (pAt cs i + 1 + a.length) 0 = (r.length : Int) := by
        rw [List.getD_eq_getElem?_getD, show pAt cs i + 1 + a.length = pAt cs i + (a.length + 1) by omega, hget, List.getElem?_cons_succ, List.getElem?_append_right (Nat.le_refl _), Nat.sub_self]
        rfl
      rw [e2, show pAt cs i + 1 + a.length + 1 = pAt cs i + (a.length + 1 + 1) by omega, hd, Int.toNat_natCast]
      show ((a ++ ((((r.length : Int) :: r) ++ []) ++ _)).drop (a.length + 1)).take r.length = r
      rw [List.append_nil, List.drop_append, List.drop_eq_nil_of_le (by omega), List.nil_append, Nat.add_sub_cancel_left]
      show (r ++ _).take r.length = r
      exact List.take_left' rfl
    · rw [if_neg k] at hx ⊢
      rw [len0' hx]
      rfl
  · intro k
    rw [if_pos k] at hx
    obtain ⟨r, rfl⟩ := len1' hx
    have e2 : (PyFlat.put cs).getD (pAt cs i + 1 + a.length) 0 = (r.length : Int) := by
      rw [List.getD_eq_getElem?_getD, show pAt cs i + 1 + a.length = pAt cs i + (a.length + 1) by omega, hget, List.getElem?_cons_succ, List.getElem?_append_right (Nat.le_refl _), Nat.sub_self]
      rfl
    have e3 : (PyFlat.putRows [r]).length = r.length + 1 := by
      show ((((r.length : Int) :: r) ++ []) : List Int).length = _
      rw [List.append_nil]
      rfl
    rw [e2]
    exact ⟨by omega, by omega⟩
  · rw [p_succ h, e1, List.length_cons, List.length_append]
    by_cases k : hasRow p = true
    · rw [if_pos k] at hx ⊢
      obtain ⟨r, rfl⟩ := len1' hx
      have e3 : (PyFlat.putRows [r]).length = r.length + 1 := by
        show ((((r.length : Int) :: r) ++ []) : List Int).length = _
        rw [List.append_nil]
        rfl
      rw [e3]
      show _ = pAt cs i + 1 + a.length + r.length + 1
      omega
    · rw [if_neg k] at hx ⊢
      rw [len0' hx]
      show pAt cs i + (a.length + 0 + 1) = pAt cs i + 1 + a.length + 0 + 0
      omega
end
end Fd

namespace Fd
open PySem PySem.Spec PyProof.Rows L2
open Vbndao (Deal Position)
theorem asked_out {l : List Int} (h : PyVbndao.answers_asked l = true) : ∃ raw, l = PyFlat.put raw ∧ (∀ c ∈ raw, PyFlat.okCall PyVbndao.shape c) ∧ PyVbndao.answers l = aAt raw raw.length ∧ (aAt raw raw.length).length ≤ 10000000 ∧ (∀ c ∈ raw, (rowC c).length ≤ 3500) := by
  unfold PyVbndao.answers_asked at h
  cases e : PyFlat.calls PyVbndao.shape l.length l with
  | none => rw [e] at h; cases h
  | some raw =>
    rw [e] at h
    dsimp only at h
    rw [Bool.and_eq_true, Bool.and_eq_true, Bool.and_eq_true, Bool.and_eq_true] at h
    obtain ⟨⟨⟨⟨_, _⟩, hi⟩, _⟩, hs⟩ := h
    obtain ⟨h1, h2⟩ := PyFlat.put_calls l.length l raw e
    have ea : PyVbndao.answers l = aAt raw raw.length := by
      unfold PyVbndao.answers PyVbndao.calls
      rw [e]
      dsimp only
      have : raw.map PyVbndao.whole = raw := by
        conv => rhs; rw [← List.map_id raw]
        refine List.map_congr_left fun c hc => ?_
        obtain ⟨p, a, xs, ec, hs⟩ := h2 c hc
        exact (ans_step st_start ec hs).2.1
      rw [this]
      unfold aAt
      rw [List.take_length]
    refine ⟨raw, h1, h2, ea, ?_, fun c hc => ?_⟩
    · rw [← ea]
      exact of_decide_eq_true hs
    · obtain ⟨p, a, xs, ec, hs⟩ := h2 c hc
      have hx := (ans_step st_start ec hs).2.2.2.1
      have hb := List.all_eq_true.mp hi c hc
      subst ec
      show (xs.headD []).length ≤ 3500
      by_cases k : hasRow p = true
      · rw [if_pos k] at hx
        obtain ⟨r, rfl⟩ := len1' hx
        have kk := List.contains_iff_mem.mp k
        simp only [List.mem_cons, List.not_mem_nil, or_false] at kk
        have key : (PyVbndao.bound p).2 = [(-1000000000000000000, 1000000000000000000, 0, 3500)] := by
          rcases kk with k | k | k | k <;> subst k <;> rfl
        have hb2 : (PyInside.each (PyVbndao.bound p).1 a && PyInside.lists (PyVbndao.bound p).2 [r]) = true := hb
        rw [key, Bool.and_eq_true] at hb2
        have hb3 : (decide (0 ≤ r.length) && decide (r.length ≤ 3500) && r.all (PyInside.within (-1000000000000000000) 1000000000000000000) && PyInside.lists [] []) = true := hb2.2
        rw [Bool.and_eq_true, Bool.and_eq_true, Bool.and_eq_true, decide_eq_true_eq, decide_eq_true_eq] at hb3
        exact hb3.1.1.2
      · rw [if_neg k] at hx
        rw [len0' hx]
        show 0 ≤ 3500
        omega
def sp_answers (K : PySem.W.Frag) : Sp := spOf (fun l : List Int => PyVbndao.answers_asked l = true) (fun l => [dQ K (dZ l)]) (fun l => dIs (PyVbndao.answers l))
/-! answers -/
def N_answers : List Str := ["calls", "table", "place", "found", "operation", "behind", "row"]
theorem sc_answers : FnScope ["calls", "table", "place", "found", "operation", "behind", "row"] ["calls"] (defScope s_answers) := ⟨rfl, rfl, rfl, by decide +kernel, rfl, by decide +kernel, by decide +kernel⟩
theorem nm_answers : nmB ["calls", "table", "place", "found", "operation", "behind", "row"] (defScope s_answers) [2, 0, 4, 5, 3, 1, 6] [1, 2, 3, 4, 5, 6] ["Table", "len", "many_numbers", "row_at", "answer_of", "listed", "WITH_A_LIST", "int"] = true := by decide +kernel
def t_answers (K : PySem.W.Frag) : TS := tSeq (tPar3 1 2 3 (tCons (tMake (He.ga K "Table") (sp_Table K) [] E0 tNil) (tCons (tC (.int 0)) (tCons (tLst (tNil)) (tNil))))) (tSeq (tWhile (tTest (tOp oLt (tVar 2) (tCB (cLen K) (tCons (tVar 0) (tNil))))) (tSeq (tAsg (tOp (rIxL K) (tVar 0) (tVar 2)) (gName 4)) (tSeq (tAsg (tOp oAdd (tOp oAdd (tVar 2) (tC (.int 1))) (tCall (sp_many_numbers K) [] E0 (tCons (tVar 4) (tNil)))) (gName 5)) (tSeq (tAsg (tCall (sp_row_at K) [] E0 (tCons (tVar 0) (tCons (tVar 4) (tCons (tVar 5) (tNil))))) (gName 6)) (tSeq (tDrop (tBM K "list" rExtend (tVar 3) (tCons (tCall (sp_listed K) [] E0 (tCons (tCall (sp_answer_of K) [] E0 (tCons (tVar 1) (tCons (tVar 4) (tCons (tSl (rSlL K) (tVar 0) (tPart (tOp oAdd (tVar 2) (tC (.int 1)))) (tPart (tVar 5))) (tCons (tVar 6) (tNil)))))) (tNil))) (tNil)))) (tAsg (tOp oAdd (tOp oAdd (tVar 5) (tCB (cLen K) (tCons (tVar 6) (tNil)))) (tCB (cInt) (tCons (tOp (rIn K false) (tVar 4) (tC (.ref (He.ga K "WITH_A_LIST")))) (tNil)))) (gName 2))))))) (tRet (tVar 3)))
theorem dv_answers {X : Cx} (o0 : On fa X ["calls", "table", "place", "found", "operation", "behind", "row"] (defScope s_answers)) (hf : ∀ x, X.fn x = true) (c_Table : Mak X "Table" (He.ga X.K "Table") (sp_Table X.K)) (c_many_numbers : Cal X "many_numbers" (sp_many_numbers X.K)) (c_row_at : Cal X "row_at" (sp_row_at X.K)) (c_answer_of : Cal X "answer_of" (sp_answer_of X.K)) (c_listed : Cal X "listed" (sp_listed X.K)) : PSs X (defBody s_answers) (t_answers X.K) := by
  have n0 := nm_answers
  exact pss_cons (apar3 o0 (i := 1) (j := 2) (l := 3) rfl rfl rfl (by decide) (by decide) (by decide) (by decide +kernel) (by decide +kernel) (by decide +kernel) (pa_cons (amake0 o0 n0 c_Table (gm 0 rfl)) (pa_cons (pe_int) (pa_cons (pe_lst (pa_nil)) (pa_nil)))) (by rfl)) (pss_cons (ps_while o0.nev (pt_cmpR op_lt (av o0 n0 2 (gm 0 rfl) rfl) (acb o0 n0 call_len_seq (by decide +kernel) (pa_cons (av o0 n0 0 (gm 1 rfl) rfl) (pa_nil)) (gm 1 rfl) f_len) (nomark _)) (pss_cons (aset o0 n0 hf 4 (pe_ix ix_list (av o0 n0 0 (gm 1 rfl) rfl) (av o0 n0 2 (gm 0 rfl) rfl) (fun _ _ => rfl)) (gm 3 rfl) rfl) (pss_cons (aset o0 n0 hf 5 (pe_op op_add (pe_op op_add (av o0 n0 2 (gm 0 rfl) rfl) (pe_int)) (acall o0 n0 c_many_numbers (pa_cons (av o0 n0 4 (gm 2 rfl) rfl) (pa_nil)) (gm 2 rfl))) (gm 4 rfl) rfl) (pss_cons (aset o0 n0 hf 6 (acall o0 n0 c_row_at (pa_cons (av o0 n0 0 (gm 1 rfl) rfl) (pa_cons (av o0 n0 4 (gm 2 rfl) rfl) (pa_cons (av o0 n0 5 (gm 3 rfl) rfl) (pa_nil)))) (gm 3 rfl)) (gm 5 rfl) rfl) (pss_cons (ps_expr (pe_bm PySem.F.plainAttrs_list PySem.F.slot_list_extend PySem.F.type_list_extend mt_extend (av o0 n0 3 (gm 4 rfl) rfl) (pa_cons (acall o0 n0 c_listed (pa_cons (acall o0 n0 c_answer_of (pa_cons (av o0 n0 1 (gm 5 rfl) rfl) (pa_cons (av o0 n0 4 (gm 2 rfl) rfl) (pa_cons (pe_slice sl_list (av o0 n0 0 (gm 1 rfl) rfl) (po_some (pe_op op_add (av o0 n0 2 (gm 0 rfl) rfl) (pe_int))) (po_some (av o0 n0 5 (gm 3 rfl) rfl))) (pa_cons (av o0 n0 6 (gm 6 rfl) rfl) (pa_nil))))) (gm 4 rfl)) (pa_nil)) (gm 5 rfl)) (pa_nil)))) (pss_one (aset o0 n0 hf 2 (pe_op op_add (pe_op op_add (av o0 n0 5 (gm 3 rfl) rfl) (acb o0 n0 call_len_seq (by decide +kernel) (pa_cons (av o0 n0 6 (gm 6 rfl) rfl) (pa_nil)) (gm 1 rfl) f_len)) (act o0 n0 call_int1 (by decide +kernel) (pa_cons (pe_cmpR op_in_seq (av o0 n0 4 (gm 2 rfl) rfl) (agr o0 n0 (gm 6 rfl) f_WITH_A_LIST) (by with_unfolding_all rfl)) (pa_nil)) (gm 7 rfl) f_int)) (gm 1 rfl) rfl))))))) (pss_one (ps_ret (av o0 n0 3 (gm 4 rfl) rfl))))
theorem ev_answers {K : PySem.W.Frag} {mg : Str → Option Value} (C : Ctx K mg) : ∀ l : List Int, PyVbndao.answers_asked l = true → ∀ W, Rt (t_answers K) (envOf ["calls", "table", "place", "found", "operation", "behind", "row"] [dQ K (dZ l)]) W (rD (dIs (PyVbndao.answers l))) := fun l hl W => by
  obtain ⟨cs, rfl, hok, ea, hb, hr⟩ := asked_out hl
  rw [ea]
  refine rt_newT rfl fun x => ?_
  have pn : pAt cs cs.length = (PyFlat.put cs).length := by unfold pAt; rw [List.take_length]
  refine rt_seq (nx_to (nx_while cs.length (fun i => [some (.pl (dQ K (dZ (PyFlat.put cs)))), some (.ow (ownT K W x (sAt cs i))), some (.pl (dN (pAt cs i))), some (.ow (ownL W (dZ (aAt cs i)))), none, none, none]) [4, 5, 6] (fun i hi => ?_) fun i hi => ?_) rfl) ?_
  · refine (et_test (ev_I0 ev_var (Ev.to (ev_lenQ (ds := dZ (PyFlat.put cs)) ev_var) (by rw [List.length_map])))).to (decide_eq_decide.mpr ?_)
    by_cases k : i < cs.length
    · have hc : cs[i]? = some cs[i] := List.getElem?_eq_getElem k
      obtain ⟨p, a, xs, ec, hs⟩ := hok _ (List.mem_of_getElem? hc)
      rw [ec] at hc
      have := (at_call hc (ans_step st_start rfl hs).2.2.2.1).2.1
      exact ⟨fun _ => k, fun _ => by show ((pAt cs i : Nat) : Int) < _; omega⟩
    · have e : i = cs.length := by omega
      subst e
      rw [pn]
      exact ⟨fun z => absurd z (Int.lt_irrefl _), fun z => absurd z (Nat.lt_irrefl _)⟩
  · have hc : cs[i]? = some cs[i] := List.getElem?_eq_getElem hi
    have hrow := hr _ (List.mem_of_getElem? hc)
    obtain ⟨p, a, xs, ec, hs⟩ := hok _ (List.mem_of_getElem? hc)
    rw [ec] at hc hrow
    have so := s_ok hok i
    obtain ⟨q1, _, q3, q4, q5, q6, q7, q8⟩ := ans_step so rfl hs
    obtain ⟨b1, b2, b3, b4, b5, b6⟩ := at_call hc q4
    have es := s_succ hc
    have eA := a_succ hc
    have hm := a_mono (cs := cs) (i + 1)
    have q1 : ansOf (sAt cs i) p a (xs.headD []) = VbndaoNeutral.step (sAt cs i) ((p :: a) :: xs) := q1
    rw [← q1] at es eA
    rw [eA, List.length_append, List.length_cons] at hm
    have hrow : (xs.headD []).length ≤ 3500 := hrow
    refine ⟨_, nx_seq (nx_set (d := dI p) (Ev.to (ev_ixQ (j := pAt cs i) ev_var ev_var (ints_at b2)) (by rw [b1]))) (nx_seq (nx_set (d := dN (pAt cs i + 1 + a.length)) (Ev.to (ev_addN (m := pAt cs i + 1) (ev_addN (k := 1) ev_var ev_c) (ev_call p trivial (ea_cons ev_var ea_nil))) (by rw [q3]))) (nx_seq (nx_set (d := dIs (xs.headD [])) (Ev.to (ev_call (PyFlat.put cs, p, pAt cs i + 1 + a.length) b5 (ea_cons ev_var (ea_cons ev_var (ea_cons ev_var ea_nil)))) (by show dIs (rowAt _ _ _) = _; rw [b4])))
      (nx_seq (nx_ansT (sAt cs i, p, a, xs.headD []) ⟨so, by show (xs.headD []).length ≤ 100000; omega, q5, q6, q7, q8⟩ (by show (ansOf (sAt cs i) p a (xs.headD [])).2.length ≤ 11000000; omega) rfl rfl rfl (ea_cons ev_var (ea_cons (Ev.to (EvO.ev (evO_slQ (lo := some ((pAt cs i + 1 : Nat) : Int)) (hi := some ((pAt cs i + 1 + a.length : Nat) : Int)) ev_var (evp_some (ev_addN (k := 1) ev_var ev_c)) (evp_some ev_var))) (by rw [cut_all dI, Nat.add_sub_cancel_left, b3])) (ea_cons ev_var ea_nil))) (by
          rw [List.length_map]
          refine Nat.le_trans (m := 11000000) ?_ (by decide)
          show _ + ((ansOf (sAt cs i) p a (xs.headD [])).2.length + 1) ≤ _
          omega))
        (nx_set (d := dN (pAt cs (i + 1))) (Ev.to (ev_addN (m := pAt cs i + 1 + a.length + (xs.headD []).length) (k := if hasRow p = true then 1 else 0) (ev_addN ev_var (ev_lenM (f := dI) ev_var)) (Ev.to (ev_intB (ev_isC [0, 1, 11, 13] ev_var (ev_tupC (ctx_ex C).2.2.2.2))) ?_)) (by rw [b6])))))), ?_⟩
    · show dI (if hasRow p = true then 1 else 0) = _
      by_cases k : hasRow p = true
      · rw [if_pos k, if_pos k]; rfl
      · rw [if_neg k, if_neg k]; rfl
    · rw [es, eA]
      rw [show dZ (aAt cs i ++ (((ansOf (sAt cs i) p a (xs.headD [])).2.length : Int) :: (ansOf (sAt cs i) p a (xs.headD [])).2)) = dZ (aAt cs i) ++ dZ (((ansOf (sAt cs i) p a (xs.headD [])).2.length : Int) :: (ansOf (sAt cs i) p a (xs.headD [])).2) from List.map_append]
      rfl
  · exact rt_frzV rfl
theorem ok_answers {P : Program} {w : World} {K : PySem.W.Frag} {mg : Str → Option Value} {base : Heap} (C : Ctx K mg) : Ok P w K mg base 38 "answers" ["calls"] (sp_answers K) :=
  ok_gen C 93 rfl rfl sc_answers fg_answers (fun _ _ _ _ _ _ hr o => dv_answers o (fun _ => rfl) ((okM_Table C).mak hr (by decide)) ((ok_many_numbers C).cal hr (by decide)) ((ok_row_at C).cal hr (by decide)) ((ok_answer_of C).cal hr (by decide)) ((ok_listed C).cal hr (by decide))) (fun _ _ _ _ _ _ us hl => match us, hl with | [_], _ => rfl) (len_of fun _ => rfl) fun _ _ _ _ h => reads_of (ev_answers C) h
end Fd

namespace Fd
open PySem PySem.Spec PyProof.Rows L2
open Vbndao (Deal Position)
section
variable {P : Program} {w : World} {K : PySem.W.Frag} {mg : Str → Option Value}
/-- answers: one function object whatever the heap below -/
theorem answers_fd (C : Ctx K mg) : ∃ fd, (∀ base : Heap, FnOk P w K mg base CX0 38 (He.ga K "answers") fd ["calls"] (sp_answers K)) ∧ ∀ (s : Shared) (us : List Value), us.length = 1 → BindsTo s fd ⟨us, []⟩ ((["calls"] : List Str).zip us) := by
  obtain ⟨fd, F⟩ := C.says.def_ 93 rfl
  refine ⟨fd, fun base => F.ok sc_answers (len_of fun _ => rfl) fun cdv A outer s H vs Q E hr h => ⟨_, PSs.nox (dv_answers (X := Xof P w K mg base N_answers "answers" (defScope s_answers) (He.ga K "answers") cdv A outer s H E) ⟨rfl, rfl, rfl, sc_answers.nd, PassesOwn.never, C.gb, hr.units⟩ (fun _ => rfl) ((okM_Table C).mak hr (by decide)) ((ok_many_numbers C).cal hr (by decide)) ((ok_row_at C).cal hr (by decide)) ((ok_answer_of C).cal hr (by decide)) ((ok_listed C).cal hr (by decide))), reads_of (ev_answers C) h⟩, fun s us hl => FunD.bindsA (ps := ["calls"]) F (fun _ _ _ _ _ _ us hl => match us, hl with | [_], _ => rfl) s us hl⟩
/-- the promise, from the arguments as data to the answer as data -/
theorem answers_dw {H : Hp} {xs : List V} {l : List Int} (ha : PyVbndao.answers_asked l = true) (h : DwAll K H xs [PySem.W.WData.list (l.map PySem.W.WData.int)]) : sp_answers K xs H (fun v H' => Dw K H' v (.list ((PyVbndao.answers l).map PySem.W.WData.int))) fun _ _ _ => False := by
  cases h with
  | cons h1 h2 =>
    cases h2
    cases h1 with
    | lst hs hd =>
      have e := ints_dw l _ hd
      subst e
      refine ⟨l, ⟨H, H, fun _ _ e => e, fun _ _ e _ => e⟩, rfl, ha, ⟨⟨_, _, rfl, hs, ?_⟩, trivial⟩, fun v U lu o => ?_⟩
      · show AllD (l.map dI) (l.map V.int) H
        have := AllD.vals (F := H) (l.map V.int)
        rw [List.map_map] at this
        exact this
      · obtain ⟨p, vs, ev, hp, a⟩ := o
        subst ev
        have e2 : vs = (PyVbndao.answers l).map V.int := AllD.of_vals (by rw [List.map_map]; exact a)
        subst e2
        exact .lst (.inl (.inl (U.sub _ _ hp))) (dw_ints _)
end
end Fd

namespace Fd
open PySem PySem.Spec PyProof.Rows L2
def rfO (o : Obj) : List Addr := match o.data with
  | .func fd => He.refV fd.code
  | .cls cd => [cd.ns]
  | .dict es _ => es.toList.flatMap fun e => He.refV e.val
  | _ => []
def nextA (g : Addr → Option Obj) (as : List Addr) : List Addr := as.flatMap fun a => match g a with
  | some o => rfO o
  | none => []
def lv1 (g : Addr → Option Obj) : List Addr := nextA g [mainGlobals]
def lv2 (g : Addr → Option Obj) : List Addr := nextA g (lv1 g)
def lv3 (g : Addr → Option Obj) : List Addr := nextA g (lv2 g)
def lv4 (g : Addr → Option Obj) : List Addr := nextA g (lv3 g)
def asF (g : Addr → Option Obj) : List Addr := mainGlobals :: (lv1 g ++ (lv2 g ++ (lv3 g ++ lv4 g)))
def obG (g : Addr → Option Obj) (as : List Addr) : He.AlD × Bool := (He.obsD fa fn (He.frG g as), exB (He.frG g as))
def hk : PySem.W.Hook where
  α := He.AlD × Bool
  obs := fun s => obG s.heap.get? (asF s.heap.get?)
  val := fun _ => (He.valD fn, true)
  says := fun _ h => ∃ K : PySem.W.Frag, K.In h ∧ He.SaysD fa fn K ∧ exB K = true
  of := fun _ _ e => ⟨_, He.frG_in, congrArg (fun z : He.AlD × Bool => z.1) e, congrArg (fun z : He.AlD × Bool => z.2) e⟩
  keeps := fun _ _ _ ⟨K, hK, c, d⟩ k => ⟨K, PySem.W.Frag.In.keeps hK k, c, d⟩
def ob (s : PySem.W.SharedT) : He.AlD × Bool := obG (HeadRun.getT s) (asF (HeadRun.getT s))
theorem ob_eq (s : PySem.W.SharedT) : ob s = hk.obs s.abs := by
  have e : HeadRun.getT s = s.abs.heap.get? := funext (HeadRun.getT_eq s)
  show obG (HeadRun.getT s) (asF (HeadRun.getT s)) = obG s.abs.heap.get? (asF s.abs.heap.get?)
  rw [e]
abbrev R : PySem.W.OpenSpec := PySem.Challenge.rw_facedup_s01_answers
theorem run (w : World) : HeadRun.RunEqS R (PySem.W.view R.prog [150]) hk ob 40000 names w := by
  intro os
  kernel_rfl
theorem room : Room 38 callerA := ⟨rfl, by decide, by decide⟩
theorem walk {q : Program} {loose : List Str} {XP : (Str → Option Value) → Heap → Prop} {d : DefRec} (hn : d.name = "answers") (hwell : R.wellSaid = true) : PySem.W.WalkOS q loose XP hk.says R d [] (fun f vs => PySem.call f vs) := by
  intro w s0 s1 mg mb G Y f o pm cd doc dV kV ho hd hcd hD hmg hg args vals as hpre hlay hrd hwl hlo
  obtain ⟨K, hK, hS, hE⟩ := Y
  have C : Ctx K mg := ⟨hS, hE, ⟨fun x hx => (List.getElem?_of_mem hx).elim fun i hi => hS.fact i hi, _, hK, G.T.g⟩⟩
  obtain ⟨fd, hF, hB⟩ := answers_fd (P := R.prog) (w := w) C
  have ef : f = He.ga K "answers" := by
    have h1 := C.gb.glo fg_answers
    rw [hn] at hmg
    rw [hmg] at h1
    cases h1
    rfl
  subst ef
  obtain ⟨a, e1, e2⟩ := PySem.W.os_pre_some hpre
  obtain ⟨e3, hwi⟩ := PySem.W.Codec.encAll_of_decAll R.args args a e1
  subst e3
  have spa : ∀ (H : Hp) (xs : List V), OnlyF H → DwAll K H xs (PySem.W.Codec.encAll R.args a) → sp_answers K xs H (fun v H' => Dw K H' v (R.ret.enc (PySem.W.Codec.app R.args R.f a))) fun _ _ _ => False := by
    intro H xs _ hD2
    obtain ⟨l, u⟩ := a
    exact answers_dw (l := l) e2 hD2
  have cx : ∀ (H : Hp) (e : Value) (s' : Shared), CX0 [] H s1 (fun _ _ _ => False) e s' → False := fun _ _ _ z => z
  have main := spec_call (R := []) (cl := classAt s0.heap) hK G.T.g G.T.b G.T.builtins G.T.nolimit hg hwl (pl_encAll R.args a) (layable_weight hlay) room (fun base _ _ => hF base) hB (by rw [encAll_len]; rfl) spa cx
  refine PySem.W.enter_call (codeAny_mono main ?_)
  rintro r' s' ⟨v, bs, rfl, k1, k2, k3, k4⟩
  have hp := (PySem.W.OpenSpec.post_iff hwell hwi (R.ret.enc (PySem.W.Codec.app R.args R.f a)) (PySem.W.Codec.encAll R.args a)).mpr rfl
  exact ⟨Or.inl ⟨v, _, bs, rfl, fun _ => rfl, k1, hp, fun z => nomatch (show false = true from z)⟩, k2, k3, k4⟩
end Fd
open PySem PySem.W PySem.Calls PyProof.Rows
theorem PySem.Challenge.cw_facedup_s01_answers_holds : PySem.Challenge.rw_facedup_s01_answers.Holds := by
  w_on
  refine HeadRun.head_spec (r := PySem.Challenge.rw_facedup_s01_answers) (q := view PySem.Challenge.rw_facedup_s01_answers.prog [150]) (H := Fd.hk) (ob := Fd.ob) (M := 40000) (loose := Fd.names) (d := HeadRun.topDef PySem.Challenge.rw_facedup_s01_answers.prog 150) (kwd := []) Fd.ob_eq
    (by kernel_rfl) (fun s => by kernel_rfl) Fd.run (by kernel_rfl) (by kernel_rfl) (by kernel_rfl) os_shapes (by first | assumption | decide +kernel) (by decide +kernel) ⟨rfl, rfl, rfl, rfl, rfl, by decide +kernel⟩ ?hw ?hc
  case hw => exact ⟨[.list [.int 5]], by decide +kernel, by decide +kernel⟩
  case hc => exact Fd.walk rfl (by decide +kernel)

